/- A part of the proof of PupilFieldsCardSaid, without conditions. -/
import Derived.Test.YtpfnmbpfhlllaaaGreatDoorP10
import Derived.ProofKit
import Derived.LaidMore
import Derived.OpenShut
import Derived.SizedLaws
import Derived.Carry
import Derived.Test.YtpfnmbpfhlllaaaGreatDoorRows
import Derived.Test.YtpfnmbpfhlllaaaGreatDoorTie
import Derived.Test.YtpfnmbpfhlllaaaGreatDoorCards
import Derived.MakeChecks
import Derived.Lib.LaidTab
import Derived.LaidLaws
import Derived.Stop.Joined
import Derived.Stop.LaidErr
import Derived.RowKit
import Derived.Lay
import Derived.SevenTiedAt
set_option linter.unusedVariables false
set_option linter.unusedSimpArgs false
set_option linter.unusedSectionVars false
set_option maxHeartbeats 4000000
open Go.Proofs.Tryz (prog)
section
namespace Go.Lens
open Go.Proofs
def gh0:Gh:=⟨0,⟨fun _ _=>none,fun _=>none⟩,fun _=>default,fun _=>none⟩
theorem inv0 [Lz] (w:World) (hl:∀ b o,Lz.L b=some o->w.heap[b]? =some o):ZZ gh0 (qr []) w:=by
 refine⟨fun h o e=>cB,fun b h e=>cB,fun b h e=>cB,fun k o h e=>cB,fun b o v hb=>?_,fun r es hb=>?_,zt _,fun b o e=>⟨rfl,hl _ _ e⟩⟩
 · exact absurd hb (Nat.not_lt_zero _)
 · exact absurd hb (Nat.not_lt_zero _)
theorem rd0 (w:World) (b o:Nat):(gh0.rd w).cell b o=w.cell? ⟨b,o,none⟩:=by simp[Gh.rd,gh0]
section
variable {H:Type} {enc:TypeId×Value->H} {P:Program} {w:World} {base:Nat} {spare:Nat->Bool} {held:Bool} {fuel:Nat} {t e:TypeId}
theorem oneCell_lit {v:Value} (h:isLit v=true):v.oneCell'=true:=by
  unfold isLit at h
  split at h<;>first|rfl|cases h
theorem relElems_of {α:Type} {encE:α->List PV} {sz b:Nat} {R:Rd} (hlen:∀ x,(encE x).length=sz):∀ (n off:Nat),(∀ i,i<n->∃ x,qY R (encE x) b (off+i*sz))->∃ l:List α,l.length=n/\qQ R (l.map encE) b off sz
  | 0,off,_=>⟨[],rfl,by simp only[zX,qQ]⟩
  | n+1,off,h=>by
    obtain⟨x,hx⟩:=h 0 aa
    obtain⟨l,hl,hr⟩:=relElems_of hlen n (off+sz) fun i hi=>by
      obtain⟨y,hy⟩:=h (i+1) aa
      exact⟨y,by rw[show off+sz+i*sz=off+(i+1)*sz from by rw[Wa];omega];exact hy⟩
    refine⟨x::l,by simp[hl],?_⟩
    simp only[zy,qQ]
    exact⟨hlen x,by simpa using hx,hr⟩
theorem read_slice {α:Type} {encE:α->List PV} {vals:α->List Value} {sz:Nat} {cs:List Value} {x:DataW H×List MemPlace} (ht:P.underlying t=some (.slice e)) (hc:P.cellsOf e=sz) (hsz:0<sz)
    (hE:∀ n c y,DataW.trod enc P w base spare held n e c=some y->∃ a:α,c=vals a) (hv:∀ a,(vals a).length=sz) (hlen:∀ a,(encE a).length=sz)
    (hR:∀ a b off,(∀ i,i<sz->w.cell? ⟨b,off+i,none⟩=(vals a)[i]?)->qY (gh0.rd w) (encE a) b off)
    (h:DataW.trod enc P w base spare held fuel t cs=some x) :
    ∃ (l:List α) (v:Value),cs=[v]/\qI (gh0.rd w) (.slice (l.map encE)) v/\((l=[]/\x.1=.nil)\/∃ es rest,x.1=.slice es rest/\es.length=l.length):=by
  rcases DataW.trod_slice ht h with ⟨rfl,rfl⟩|⟨a,len,cap,elems,rest,n,_,rfl,rfl,hb,hl,hm,hlen',hel,_,_⟩
  · refine⟨[],_,rfl,?_,.inl ⟨rfl,rfl⟩⟩
    simp only[zX,qI]
    exact⟨none,0,rfl,zB _,.inl trivial⟩
  · have each:∀ i,i<len->∃ a':α,∀ j,j<sz->w.cell? ((a.add (i*sz)).add j)=(vals a')[j]? :=by
      intro i hi
      have h1:=hel i hi
      have h2:∃ y,elems[i]? =some y:=⟨elems[i]'aa,zm aa⟩
      obtain⟨y,hy⟩:=h2
      rw[hy,hc,qg] at h1
      obtain⟨c,hc1,hc2⟩:=h1
      obtain⟨a',rfl⟩:=hE _ _ _ hc2
      obtain⟨_,_,k3⟩:=World.cells?_some hc1
      exact⟨a',fun j hj=>k3 j hj⟩
    by_cases h0:len=0
    · subst h0
      refine⟨[],_,rfl,?_,.inr ⟨_,_,rfl,by simp[hlen']⟩⟩
      simp only[zX,qI]
      exact⟨some a,cap,rfl,hl,.inl trivial⟩
    · have hspot:a.spot=none:=by
        obtain⟨a',ha⟩:=each 0 aa
        have h1:=ha 0 hsz
        have h2:(vals a')[0]?≠none:=by
          rw[zm (by rw[hv];exact hsz)];simp
        simp only[KU,Addr.add,ql] at h1
        rw[<-h1] at h2
        unfold World.cell? at h2
        split at h2
        · cases hs:a.spot with
          | none=>rfl
          | some k=>rw[hs] at h2;simp at h2
        · exact absurd Z h2
      obtain⟨b,off,spot⟩:=a
      simp only at hspot
      subst hspot
      have addr:∀ i j,((⟨b,off,none⟩:Addr).add (i*sz)).add j=⟨b,off+i*sz+j,none⟩:=by
        intro i j
        unfold Addr.add
        by_cases h1:i*sz=0<;>by_cases h2:j=0<;>simp[h1,h2]
      obtain⟨l,hl1,hl2⟩:=relElems_of (R:=gh0.rd w) (b:=b) hlen len off fun i hi=>by
        obtain⟨a',ha⟩:=each i hi
        exact⟨a',hR a' b _ fun j hj=>by rw[<-addr];exact ha j hj⟩
      refine⟨l,_,rfl,?_,.inr ⟨_,_,rfl,by simp[hlen',hl1]⟩⟩
      simp only[qI,zI]
      exact⟨some ⟨b,off,none⟩,cap,by rw[hl1],by rw[hl1];exact hl,.inr ⟨b,off,sz,rfl,hl2⟩⟩
theorem relCells_lits {vs:List Value} (hl:∀ v∈vs,isLit v=true):∀ {b off:Nat},(∀ i,i<vs.length->w.cell? ⟨b,off+i,none⟩=vs[i]?)->qY (gh0.rd w) (vs.map .lit) b off:=by
  induction vs with
  | nil=>intro b off _;simp only[zX,qY]
  | cons v vs ih=>
    intro b off h
    simp only[zy,qY]
    refine⟨⟨v,?_,oneCell_lit (hl v ao),?_⟩,ih (fun u hu=>hl u (by simp[hu])) fun i hi=>?_⟩
    · rw[rd0];simpa using h 0 ao
    · simp only[qI];exact⟨trivial,hl v ao⟩
    · have:=h (i+1) ar
      rw[show off+1+i=off+(i+1) from aa];simpa using this
end
end Go.Lens
namespace Go.Lens.Tb
open Go.Proofs Go.Proofs.YtpfnmbpfhlllaaaGreatDoor Go.RowKit Go.ChangeShapes Go.WideShapes Go.ChangeAt
set_option maxRecDepth 100000
theorem gPow:Tryz.prog.globalNamed "internal/strconv.uint64pow10" =some 8:=ae
theorem tPow:(Tryz.prog.globals[8]?).map (·.type)=some 336:=ae
theorem gFac:Tryz.prog.globalNamed "lenslet/pupil.factorials" =some 0:=ae
theorem tFac:(Tryz.prog.globals[0]?).map (·.type)=some 207:=ae
theorem plainLaid:(Rows.pupilFieldsRow.laid.all fun x=>x.2.handleName?.isNone)=true:=ae
theorem powDatum:(Rows.laid_internal_strconv_uint64pow10:DataW Unit)=Lib.tabData .u64 Lib.pow10Tab:=ae
theorem facDatum:(Rows.laid_lenslet_pupil_factorials:DataW Unit)=Lib.tabData .i64 facL:=ae
theorem pow_of {W:World} (h:laidMetH prog Rows.pupilFieldsRow.laid W):(∃ T fr,W.heap[8]? =some (.cells (Lib.pow10Tab.map fun z=>Value.int .u64 z).toArray T fr))/\∃ T fr,W.heap[0]? =some (.cells (facL.map fun z=>Value.int .i64 z).toArray T fr):=by
 rw[MakeChecks.laidMetH_plain _ _ _ plainLaid] at h
 have h2:=h.tail.tail
 have h6:=h2.tail.tail.tail.tail
 constructor
 · obtain⟨ps,⟨g2,t2,cs2,f2,p2,q2,hg,ht,hv,hd,_,_⟩,_,_⟩:=h2
   obtain rfl:=JO (gPow.symm.trans hg)
   obtain rfl:=JO (tPow.symm.trans ht)
   have hd':DataW.trod (fun _=>()) prog W 0 (fun _=>true) false f2 336 cs2.toList=some (Rows.laid_internal_strconv_uint64pow10,p2):=hd
   rw[powDatum] at hd'
   have hc:=Lib.cells_of_tab Tryz.underlying336 Tryz.underlying237 ae ae hd'
   have hv':(Tryz.prog.globalNamed "internal/strconv.uint64pow10").bind (fun g=>match W.heap[g]? with|some (.cells cs _ _)=>some cs|_=>none)=some cs2:=hv
   rw[gPow] at hv'
   simp only[zY] at hv'
   split at hv'
   · rename_i cs T fr hb
     cases hv'
     exact⟨T,fr,by rw[hb,<-hc,Array.toArray_toList]⟩
   · cases hv'
 · obtain⟨ps,⟨g2,t2,cs2,f2,p2,q2,hg,ht,hv,hd,_,_⟩,_,_⟩:=h6
   obtain rfl:=JO (gFac.symm.trans hg)
   obtain rfl:=JO (tFac.symm.trans ht)
   have hd':DataW.trod (fun _=>()) prog W 0 (fun _=>true) false f2 207 cs2.toList=some (Rows.laid_lenslet_pupil_factorials,p2):=hd
   rw[facDatum] at hd'
   have hc:=Lib.cells_of_tab Tryz.underlying207 Tryz.underlying3 ae ae hd'
   have hv':(Tryz.prog.globalNamed "lenslet/pupil.factorials").bind (fun g=>match W.heap[g]? with|some (.cells cs _ _)=>some cs|_=>none)=some cs2:=hv
   rw[gFac] at hv'
   simp only[zY] at hv'
   split at hv'
   · rename_i cs T fr hb
     cases hv'
     exact⟨T,fr,by rw[hb,<-hc,Array.toArray_toList]⟩
   · cases hv'
@[reducible] def lzOf (W:World):Lz:={ L:=fun b=>if b=8\/b=0 then W.heap[b]? else none,kr:=fun P kv=>∃ m,Go.Lens.Un.KP P m/\kv=kvO eP m }
theorem lzOf_laid (W:World):∀ b o,(lzOf W).L b=some o->W.heap[b]? =some o:=by
 intro b o h
 change (if b=8\/b=0 then W.heap[b]? else none)=some o at h
 split at h
 · exact h
 · cases h
theorem laid_of {W:World} (h:laidMetH prog Rows.pupilFieldsRow.laid W): @qJ (lzOf W)/\ @jt (lzOf W):=by
 obtain⟨⟨T,fr,hb⟩,T',fr',hb'⟩:=pow_of h
 exact⟨⟨8,T,fr,gPow,hb⟩,T',fr',hb'⟩
theorem ownK:ownKnob Tryz.prog.godebug=none:=ae
theorem laidOut:laidOutB prog=true:=ae
theorem laid_witness (os:Os) (args:Array Value):laidMetH prog Rows.pupilFieldsRow.laid ((World.laidAll prog os Rows.pupilFieldsRow.laid).forCall (fun _ _=>0) ⟨#[],args,[]⟩).memory:=by
 rw[MakeChecks.laidMetH_plain _ _ _ plainLaid];exact laidMet_laidAll _ ae ae
theorem below_of [Lz] {W W':World} {val:DV} {ms:Na} {G':Gh} {r:Value} (S:Stepped gh0 W (qr []) val ms G' W' r):Below W.heap.size W W':=
 ⟨S.later.os,S.later.tape,S.later.output,S.later.size,fun k hk=>(S.later.cold k hk Z).1⟩
theorem calls_of [Lz] {f:FuncId} {ds:List DV} {W:World} {args:Array Value} {b:Bool} (he:(callFunc f args).run prog W=.ok (.enter f args) W) (hl:∀ b o,Lz.L b=some o->W.heap[b]? =some o)
  (H:qA prog f ds (qr []) (.pv (.lit (.bool b))) []) (hr:qz gh0 (gh0.rd W) ds args.toList):Calls prog f args W fun e W'=>e=.returned (.bool b)/\Below W.heap.size W W':=by
 rcases H.call gh0 W args (inv0 W hl) hr with ⟨_,h⟩|⟨r,w',h,_⟩
 · refine h.mono ?_
   rintro e W' ⟨r,rfl,G',S⟩
   have hv:=S.hval
   exact⟨by rw[(qx (G:=G') (R:=G'.rd W') hv).1],below_of S⟩
 · rw[he] at h;cases h
section
variable {H:Type} {enc:TypeId×Value->H} {w:World} {base:Nat} {spare:Nat->Bool} {held:Bool}
theorem read_trm {n:Nat} {c:List Value} {y:DataW H×List MemPlace} (h:DataW.trod enc prog w base spare held n 63 c=some y):∃ f:Trm,c=[.string (bsO f.c),.int .i64 f.i,.int .i64 f.j]:=by
 obtain⟨xs,m,rfl,rfl,hl,hx,hf⟩:=DataW.trod_struct Tryz.underlying63 h
 have hl2:c.length=3:=hl.trans ae
 have hx2:xs.length=3:=hx
 match c,hl2,xs,hx2,hf with
 | [c0,c1,c2],_,[x0,x1,x2],_,hf=>
  have f0:=hf 0 _ rfl
  have f1:=hf 1 _ rfl
  have f2:=hf 2 _ rfl
  obtain⟨s,e0,_⟩:=DataW.trod_string Tryz.underlying23 f0
  obtain⟨i,e1,_⟩:=DataW.trod_int Tryz.underlying3 f1
  obtain⟨j,e2,_⟩:=DataW.trod_int Tryz.underlying3 f2
  cases e0;cases e1;cases e2
  exact⟨⟨s.data.toList,i,j⟩,rfl⟩
theorem read_poly {fuel:Nat} {cs:List Value} {x:DataW H×List MemPlace} (h:DataW.trod enc prog w base spare held fuel 22 cs=some x) :
  ∃ (l:List Trm) (v:Value),cs=[v]/\qI (gh0.rd w) (.slice (l.map eY)) v/\((l=[]/\x.1=.nil)\/∃ es rest,x.1=.slice es rest/\es.length=l.length):=
 read_slice (encE:=eY) (vals:=fun f:Trm=>[.string (bsO f.c),.int .i64 f.i,.int .i64 f.j]) Tryz.underlying22 (show Tryz.prog.cellsOf 63=3 by kernel_rfl) aa
  (fun n c y hy=>read_trm hy) (fun _=>rfl) (fun _=>rfl)
  (fun a b off hc=>relCells_lits (vs:=[.string (bsO a.c),.int .i64 a.i,.int .i64 a.j]) au hc) h
theorem read_place {n:Nat} {c:List Value} {y:DataW H×List MemPlace} (h:DataW.trod enc prog w base spare held n 25 c=some y):∃ x y:Nb,c=[.string (bsO x),.string (bsO y)]:=by
 obtain⟨xs,m,rfl,rfl,hl,hx,hf⟩:=DataW.trod_struct Tryz.underlying25 h
 have hl2:c.length=2:=hl.trans ae
 have hx2:xs.length=2:=hx
 match c,hl2,xs,hx2,hf with
 | [c0,c1],_,[x0,x1],_,hf=>
  have f0:=hf 0 _ rfl
  have f1:=hf 1 _ rfl
  obtain⟨s,e0,_⟩:=DataW.trod_string Tryz.underlying23 f0
  obtain⟨s2,e1,_⟩:=DataW.trod_string Tryz.underlying23 f1
  cases e0;cases e1
  exact⟨s.data.toList,s2.data.toList,rfl⟩
end
theorem lifted_pupilFields (os:Os) (started:os.Started) (H:Type) (enc:TypeId×Value->H) :
  ReturnsInHanded {} Tryz.checked os 6 .any (fun w args=>(Rows.pupilFieldsSpec.pre enc prog Tryz.f6 [] false w args/\laidMetH prog Rows.pupilFieldsRow.laid w)/\sizedMet enc prog Tryz.f6 (OpenSpec.ofChange Rows.pupilFieldsSpec) false w args)
   (Rows.pupilFieldsSpec.post enc prog Tryz.f6 false true false false):=by
 refine returnsInHanded_of_change_and (C:=Tryz.checked) (X:=fun w _=>laidMetH prog Rows.pupilFieldsRow.laid w) (fun _ _ _ hh h=>h.of_heap hh) ownK started ae Tryz.func6
  (ChangeSpec.witness_shaped (enc:=enc) (C:=Tryz.checked) (os:=os) (X:=fun w _=>laidMetH prog Rows.pupilFieldsRow.laid w) false (World.laidAll prog os Rows.pupilFieldsRow.laid) #[.slice none 0 0,.slice none 0 0,.agg #[.string ByteArray.empty,.string ByteArray.empty]] 8 (World.laidAll_os _ _ _)
   (World.shaped_of_ZipB ae ae) ae ae ae (laid_witness os _)) ?_
 intro W base args ds gs before hval0 hW _ hsz0 hL _
 have hval:∀ (j:Nat) t v,Tryz.f6.params[j]? =some t->args[j]? =some v->Value.okWide prog W .any base t v:=hval0
 have hsz:(DataW.weightsEach prog (Tryz.f6.params.toList++Rows.pupilFieldsSpec.plain.varTypes prog) (ds++gs)).all (· <=reachBytes)=true:=hsz0
 have hW':=hW
 obtain⟨p,q,hA0,hV,rfl,_,_⟩:=hW
 have hA:DataW.TrodAll enc prog W 0 (fun _=>true) true Tryz.f6.params.toList args.toList ds p:=hA0
 rw[Tryz.params6] at hA hval hsz
 obtain⟨v0,v1,v2,d0,d1,d2,p0,p1,p2,rfl,rfl,rfl,h0,h1,h2⟩:=trodAll_three hA
 obtain⟨rfl,rfl⟩:=trodVars_none hV
 simp only[zR] at hW' hsz
 have hlt:∀ x∈p0++p1++p2,x.block<W.heap.size:=fun x hx=>by simpa using hW'.lt x hx
 obtain⟨fuel0,hf0⟩:=h0
 obtain⟨fuel1,hf1⟩:=h1
 obtain⟨fuel2,hf2⟩:=h2
 obtain⟨a0,n0,k0,rfl⟩:=okWide_slice Tryz.underlying22 (hval 0 22 v0 rfl rfl)
 obtain⟨f0,v0',e0,hr0,hl0⟩:=read_poly hf0
 obtain rfl:Value.slice a0 n0 k0=v0':=by simpa [Value.cells] using e0
 have hlen0:f0.length<=4611686018427387904:=by
  rcases hl0 with ⟨rfl,_⟩|⟨es,rest,hd,hn⟩
  · simp
  · simp only at hd
    subst hd
    have:=sized_slice hsz (j:=0) (t:=22) (e:=63) Z Z Tryz.underlying22
    have hb:Tryz.prog.bytesOf 63=32:=ae
    rw[hb] at this
    simp only[reachBytes] at this
    omega
 obtain⟨a1,n1,k1,rfl⟩:=okWide_slice Tryz.underlying22 (hval 1 22 v1 rfl rfl)
 obtain⟨f1,v1',e1,hr1,hl1⟩:=read_poly hf1
 obtain rfl:Value.slice a1 n1 k1=v1':=by simpa [Value.cells] using e1
 have hlen1:f1.length<=4611686018427387904:=by
  rcases hl1 with ⟨rfl,_⟩|⟨es,rest,hd,hn⟩
  · simp
  · simp only at hd
    subst hd
    have:=sized_slice hsz (j:=1) (t:=22) (e:=63) Z Z Tryz.underlying22
    have hb:Tryz.prog.bytesOf 63=32:=ae
    rw[hb] at this
    simp only[reachBytes] at this
    omega
 obtain⟨c2,rfl,_,_⟩:∃ cs,v2=.agg cs/\cs.size=Tryz.prog.cellsOf 25/\Row.okWide prog W .any base 25 cs:=by
  have:=hval 2 25 v2 Z rfl
  unfold Value.okWide at this
  rw[Tryz.underlying25] at this
  exact this
 obtain⟨x2,y2,e2⟩:=read_place hf2
 have e2':c2.toList=[.string (bsO x2),.string (bsO y2)]:=e2
 have hr2:qI (gh0.rd W) (.agg [pS (bsO x2),pS (bsO y2)]) (.agg c2):=by
  simp only[qI]
  refine⟨c2,rfl,?_,?_⟩
  · rw[e2']
    intro x hx
    simp only[zF,List.mem_nil_iff,WE] at hx
    rcases hx with rfl|rfl<;>rfl
  · rw[e2']
    simp only[qw]
    refine⟨_,_,rfl,?_,_,_,rfl,?_,rfl⟩<;>(unfold qI;exact⟨rfl,rfl⟩)
 letI:Lz:=lzOf W
 haveI:Dn:=⟨rfl⟩
 haveI:Kr:=⟨rfl⟩
 have hrel:qz gh0 (gh0.rd W) [vL eY f0,vL eY f1,.pv (.agg [pS (bsO x2),pS (bsO y2)])] #[Value.slice a0 n0 k0,.slice a1 n1 k1,.agg c2].toList:=by
  simp only[qz,qt]
  exact⟨_,_,rfl,hr0,_,_,rfl,hr1,_,_,rfl,hr2,rfl⟩
 have hc:=calls_of (Tryz.call6 _ _) (lzOf_laid W) (w14 (laid_of hL).1 (laid_of hL).2 f0 f1 x2 y2 hlen0 hlen1) hrel
 refine hc.mono fun e W' ⟨he,hb⟩=>?_
 subst he
 have hargs:∀ {t:TypeId} {v:Value} {d:DataW H} {ps:List MemPlace},Tryz.prog.readableRec t=true->t<Tryz.prog.types.size->DataW.Trod enc prog W 0 (fun _=>true) true t v d ps->(∀ x∈ps,x.block<W.heap.size)->
   DataW.Trod enc prog W' 0 (fun b=>decide (b<W.heap.size)) true t v d ps:=fun hr ht h0 hl=>Below.trod laidOut hr ht h0 hb hl
 refine⟨_,rfl,_,_,_,[],p0++(p1++p2),[],hW',?_,trodAll_mk3 (hargs ae (X6 ae) ⟨fuel0,hf0⟩ fun x hx=>hlt x ap) (hargs ae (X6 ae) ⟨fuel1,hf1⟩ fun x hx=>hlt x ap) (hargs ae (X6 ae) ⟨fuel2,hf2⟩ fun x hx=>hlt x ap),rfl,hb.frame _,fun h=>by cases h⟩
 exact trodAll_mk1 (shut_bool Tryz.underlying4 _)
end Go.Lens.Tb
end
