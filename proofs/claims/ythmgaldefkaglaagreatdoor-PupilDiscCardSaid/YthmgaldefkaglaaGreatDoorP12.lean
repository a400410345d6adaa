/- A part of the proof of PupilDiscCardSaid, without conditions. -/
import Derived.Test.YthmgaldefkaglaaGreatDoorP11
import Derived.ProofKit
import Derived.LaidMore
import Derived.OpenShut
import Derived.SizedLaws
import Derived.Carry
import Derived.Test.YthmgaldefkaglaaGreatDoorRows
import Derived.Test.YthmgaldefkaglaaGreatDoorTie
import Derived.Test.YthmgaldefkaglaaGreatDoorCards
import Derived.MakeChecks
import Derived.Lib.LaidTab
import Derived.LaidLaws
import Derived.Stop.Joined
import Derived.Stop.LaidErr
import Derived.RowKit
import Derived.Lay
import Derived.SevenTiedAt
set_option linter.unusedVariables false
set_option linter.unusedSimpArgs false
set_option linter.unusedSectionVars false
set_option maxHeartbeats 4000000
section
namespace Go.Lens
open Go.Proofs
def gh0:Gh:=⟨0,⟨fun _ _=>none,fun _=>none⟩,fun _=>default,fun _=>none⟩
theorem inv0 [Lz] (w:World) (hl:∀ b o,Lz.L b=some o->w.heap[b]? =some o):Zc gh0 (qw []) w:=by
 refine⟨fun h o e=>cd,fun b h e=>cd,fun b h e=>cd,fun k o h e=>cd,fun b o v hb=>?_,fun r es hb=>?_,zw _,fun b o e=>⟨rfl,hl _ _ e⟩⟩
 · exact absurd hb (Nat.not_lt_zero _)
 · exact absurd hb (Nat.not_lt_zero _)
end Go.Lens
namespace Go.Lens.Tb
open Go.Proofs Go.Proofs.YthmgaldefkaglaaGreatDoor Go.RowKit Go.ChangeShapes Go.WideShapes Go.ChangeAt
set_option maxRecDepth 100000
theorem gPow:Tryz.prog.globalNamed "internal/strconv.uint64pow10" =some 6:=ae
theorem tPow:(Tryz.prog.globals[6]?).map (·.type)=some 386:=ae
theorem gFac:Tryz.prog.globalNamed "lenslet/pupil.factorials" =some 0:=ae
theorem tFac:(Tryz.prog.globals[0]?).map (·.type)=some 242:=ae
theorem plainLaid:(Rows.pupilDiscRow.laid.all fun x=>x.2.handleName?.isNone)=true:=ae
theorem powDatum:(Rows.laid_internal_strconv_uint64pow10:DataW Unit)=Lib.tabData .u64 Lib.pow10Tab:=ae
theorem facDatum:(Rows.laid_lenslet_pupil_factorials:DataW Unit)=Lib.tabData .i64 facL:=ae
theorem pow_of {W:World} (h:laidMetH Tryz.prog Rows.pupilDiscRow.laid W):(∃ T fr,W.heap[6]? =some (.cells (Lib.pow10Tab.map fun z=>Value.int .u64 z).toArray T fr))/\∃ T fr,W.heap[0]? =some (.cells (facL.map fun z=>Value.int .i64 z).toArray T fr):=by
 rw[MakeChecks.laidMetH_plain _ _ _ plainLaid] at h
 have h2:=h.tail.tail
 have h6:=h2.tail.tail.tail.tail
 constructor
 · obtain⟨ps,⟨g2,t2,cs2,f2,p2,q2,hg,ht,hv,hd,_,_⟩,_,_⟩:=h2
   obtain rfl:=Option.some.inj (gPow.symm.trans hg)
   obtain rfl:=Option.some.inj (tPow.symm.trans ht)
   have hd':DataW.trod (fun _=>()) Tryz.prog W 0 (fun _=>true) false f2 386 cs2.toList=some (Rows.laid_internal_strconv_uint64pow10,p2):=hd
   rw[powDatum] at hd'
   have hc:=Lib.cells_of_tab Tryz.underlying386 Tryz.underlying300 ae ae hd'
   have hv':(Tryz.prog.globalNamed "internal/strconv.uint64pow10").bind (fun g=>match W.heap[g]? with|some (.cells cs _ _)=>some cs|_=>none)=some cs2:=hv
   rw[gPow] at hv'
   simp only[z7] at hv'
   split at hv'
   · rename_i cs T fr hb
     cases hv'
     exact⟨T,fr,by rw[hb,<-hc,Array.toArray_toList]⟩
   · cases hv'
 · obtain⟨ps,⟨g2,t2,cs2,f2,p2,q2,hg,ht,hv,hd,_,_⟩,_,_⟩:=h6
   obtain rfl:=Option.some.inj (gFac.symm.trans hg)
   obtain rfl:=Option.some.inj (tFac.symm.trans ht)
   have hd':DataW.trod (fun _=>()) Tryz.prog W 0 (fun _=>true) false f2 242 cs2.toList=some (Rows.laid_lenslet_pupil_factorials,p2):=hd
   rw[facDatum] at hd'
   have hc:=Lib.cells_of_tab Tryz.underlying242 Tryz.underlying3 ae ae hd'
   have hv':(Tryz.prog.globalNamed "lenslet/pupil.factorials").bind (fun g=>match W.heap[g]? with|some (.cells cs _ _)=>some cs|_=>none)=some cs2:=hv
   rw[gFac] at hv'
   simp only[z7] at hv'
   split at hv'
   · rename_i cs T fr hb
     cases hv'
     exact⟨T,fr,by rw[hb,<-hc,Array.toArray_toList]⟩
   · cases hv'
@[reducible] def lzOf (W:World):Lz:={ L:=fun b=>if b=6\/b=0 then W.heap[b]? else none }
theorem lzOf_laid (W:World):∀ b o,(lzOf W).L b=some o->W.heap[b]? =some o:=by
 intro b o h
 change (if b=6\/b=0 then W.heap[b]? else none)=some o at h
 split at h
 · exact h
 · cases h
theorem laid_of {W:World} (h:laidMetH Tryz.prog Rows.pupilDiscRow.laid W): @qX (lzOf W)/\ @FacLaid (lzOf W):=by
 obtain⟨⟨T,fr,hb⟩,T',fr',hb'⟩:=pow_of h
 exact⟨⟨6,T,fr,gPow,hb⟩,T',fr',hb'⟩
theorem ownK:ownKnob Tryz.prog.godebug=none:=ae
theorem laidOut:laidOutB Tryz.prog=true:=ae
theorem laid_witness (os:Os) (args:Array Value):laidMetH Tryz.prog Rows.pupilDiscRow.laid ((World.laidAll Tryz.prog os Rows.pupilDiscRow.laid).forCall (fun _ _=>0) ⟨#[],args,[]⟩).memory:=by
 rw[MakeChecks.laidMetH_plain _ _ _ plainLaid];exact laidMet_laidAll _ ae ae
theorem below_of [Lz] {W W':World} {val:DV} {ms:List (Nat×MO)} {G':Gh} {r:Value} (S:Stepped gh0 W (qw []) val ms G' W' r):Below W.heap.size W W':=
 ⟨S.later.os,S.later.tape,S.later.output,S.later.size,fun k hk=>(S.later.cold k hk Z).1⟩
theorem calls_of [Lz] {f:FuncId} {ds:List DV} {W:World} {args:Array Value} {b:Bool} (he:(callFunc f args).run Tryz.prog W=.ok (.enter f args) W) (hl:∀ b o,Lz.L b=some o->W.heap[b]? =some o)
  (H:qD Tryz.prog f ds (qw []) (.pv (.lit (.bool b))) []) (hr:qC gh0 (gh0.rd W) ds args.toList):Calls Tryz.prog f args W fun e W'=>e=.returned (.bool b)/\Below W.heap.size W W':=by
 rcases H.call gh0 W args (inv0 W hl) hr with ⟨_,h⟩|⟨r,w',h,_⟩
 · refine h.mono ?_
   rintro e W' ⟨r,rfl,G',S⟩
   have hv:=S.hval
   exact⟨by rw[(qA (G:=G') (R:=G'.rd W') hv).1],below_of S⟩
 · rw[he] at h;cases h
theorem ok_arr2 {w:World} {r:Reach} {base:Nat} {v:Value} (h:Value.okWide Tryz.prog w r base 104 v):∃ x0 x1,v=.agg #[.int .u8 x0,.int .u8 x1]/\(0<=x0/\x0<256)/\0<=x1/\x1<256:=by
 simp only[Value.okWide,Tryz.underlying104] at h
 obtain⟨cs,rfl,hs,ts,ht,_,hc⟩:=h
 have hs:cs.size=2:=hs.trans ae
 have e:Tryz.prog.cellTypes Tryz.prog.depth 104=some [5,5]:=ae
 obtain rfl:=Option.some.inj (e.symm.trans ht)
 have key:∀ i v,cs[i]? =some v->∃ n:Int,v=Value.int .u8 n/\0<=n/\n<256:=fun i v hv=>by
  obtain⟨u,hu,hk⟩:=hc i v hv
  have hu5:u=5:=by
   rw[show ([5,5]:List TypeId).length=2 from rfl] at hu
   have:i%2=0\/i%2=1:=aa
   rcases this with e|e<;>rw[e] at hu<;>exact (Option.some.inj hu).symm
  subst hu5
  simp only[Cell.okWide,Tryz.underlying5] at hk
  cases v<;>simp only[Cell.ok,Tryz.underlying5] at hk
  rename_i k n
  obtain⟨rfl,h1,h2⟩:=hk
  exact⟨n,rfl,h1,Int.lt_of_le_of_lt h2 ah⟩
 obtain⟨x,hx,h1⟩:=key 0 cs[0] (Array.getElem?_eq_getElem aa)
 obtain⟨y,hy,h2⟩:=key 1 cs[1] (Array.getElem?_eq_getElem aa)
 refine⟨x,y,congrArg Value.agg ?_,h1,h2⟩
 refine Array.ext (by simpa using hs) fun i hi1 hi2=>?_
 have:i<2:=by simpa using hi2
 match i,this with
 | 0,_=>exact hx
 | 1,_=>exact hy
theorem rel_arr2 {R:Rd} {x y:Int}:qN R (.agg [.lit (.int .u8 x),.lit (.int .u8 y)]) (.agg #[.int .u8 x,.int .u8 y]):=by
 simp only[qN,qy]
 refine⟨_,rfl,fun v hv=>?_,_,_,rfl,⟨rfl,rfl⟩,_,_,rfl,⟨rfl,rfl⟩,rfl⟩
 rcases zG.1 hv with rfl|hv
 ·rfl
 rw[zg.1 hv];rfl
theorem lifted_pupilDisc (os:Os) (started:os.Started) (H:Type) (enc:TypeId×Value->H) :
  ReturnsInHanded {} Tryz.checked os 9 .any (fun w args=>(Rows.pupilDiscSpec.pre enc Tryz.prog Tryz.f9 [] false w args/\laidMetH Tryz.prog Rows.pupilDiscRow.laid w)/\sizedMet enc Tryz.prog Tryz.f9 (OpenSpec.ofChange Rows.pupilDiscSpec) false w args)
   (Rows.pupilDiscSpec.post enc Tryz.prog Tryz.f9 false true false false):=by
 refine returnsInHanded_of_change_and (C:=Tryz.checked) (X:=fun w _=>laidMetH Tryz.prog Rows.pupilDiscRow.laid w) (fun _ _ _ hh h=>h.of_heap hh) ownK started ae Tryz.func9
  (ChangeSpec.witness_shaped (enc:=enc) (C:=Tryz.checked) (os:=os) (X:=fun w _=>laidMetH Tryz.prog Rows.pupilDiscRow.laid w) false (World.laidAll Tryz.prog os Rows.pupilDiscRow.laid) #[.agg #[.int .u8 0,.int .u8 0],.agg #[.int .u8 0,.int .u8 0]] 8 (World.laidAll_os _ _ _)
   (World.shaped_of_ZipB ae ae) ae ae ae (laid_witness os _)) ?_
 intro W base args ds gs before hval0 hW _ hsz0 hL _
 have hval:∀ (j:Nat) t v,Tryz.f9.params[j]? =some t->args[j]? =some v->Value.okWide Tryz.prog W .any base t v:=hval0
 have hW':=hW
 obtain⟨p,q,hA0,hV,rfl,_,_⟩:=hW
 have hA:DataW.TrodAll enc Tryz.prog W 0 (fun _=>true) true Tryz.f9.params.toList args.toList ds p:=hA0
 rw[Tryz.params9] at hA hval
 obtain⟨v0,v1,d0,d1,p0,p1,rfl,rfl,rfl,h0,h1⟩:=trodAll_two hA
 obtain⟨rfl,rfl⟩:=trodVars_none hV
 simp only[zS] at hW'
 have hlt:∀ x∈p0++p1,x.block<W.heap.size:=fun x hx=>by simpa using hW'.lt x hx
 obtain⟨fuel0,hf0⟩:=h0
 obtain⟨fuel1,hf1⟩:=h1
 obtain⟨x0,x1,rfl,hx0,hx1⟩:=ok_arr2 (hval 0 104 v0 rfl rfl)
 obtain⟨y0,y1,rfl,hy0,hy1⟩:=ok_arr2 (hval 1 104 v1 rfl rfl)
 letI:Lz:=lzOf W
 haveI:Dn:=⟨rfl⟩
 have hrel:qC gh0 (gh0.rd W) [.pv (.agg [.lit (.int .u8 x0),.lit (.int .u8 x1)]),.pv (.agg [.lit (.int .u8 y0),.lit (.int .u8 y1)])] #[Value.agg #[.int .u8 x0,.int .u8 x1],.agg #[.int .u8 y0,.int .u8 y1]].toList:=by
  simp only[qC,qx]
  refine⟨_,_,rfl,?_,_,_,rfl,?_,rfl⟩<;>exact rel_arr2
 have hc:=calls_of (Tryz.call9 _ _) (lzOf_laid W) (w9 (laid_of hL).1 (laid_of hL).2 x0 x1 y0 y1 ⟨hx0.1,hx1.1⟩ ⟨hy0.1,hy1.1⟩ ⟨hx0.2,hx1.2⟩ ⟨hy0.2,hy1.2⟩) hrel
 refine hc.mono fun e W' ⟨he,hb⟩=>?_
 subst he
 have hargs:∀ {t:TypeId} {v:Value} {d:DataW H} {ps:List MemPlace},Tryz.prog.readableRec t=true->t<Tryz.prog.types.size->DataW.Trod enc Tryz.prog W 0 (fun _=>true) true t v d ps->(∀ x∈ps,x.block<W.heap.size)->
   DataW.Trod enc Tryz.prog W' 0 (fun b=>decide (b<W.heap.size)) true t v d ps:=fun hr ht h0 hl=>Below.trod laidOut hr ht h0 hb hl
 refine⟨_,rfl,_,_,_,[],p0++p1,[],hW',?_,trodAll_mk2 (hargs ae (of_decide_eq_true ae) ⟨fuel0,hf0⟩ fun x hx=>hlt x (by simp[hx])) (hargs ae (of_decide_eq_true ae) ⟨fuel1,hf1⟩ fun x hx=>hlt x (by simp[hx])),rfl,hb.frame _,fun h=>by cases h⟩
 exact trodAll_mk1 (shut_bool Tryz.underlying4 _)
end Go.Lens.Tb
end
