/- A part of the proof of NightSafeCardSaid, without conditions. -/
import Derived.Test.YtomghboflcafbaaGreatDoorO4
import Derived.Test.YtomghboflcafbaaGreatDoorTie
import Derived.Test.YtomghboflcafbaaGreatDoorCards
import Derived.Lay
import Derived.SevenTiedAt
set_option linter.unusedVariables false
set_option linter.unusedSimpArgs false
set_option linter.unusedSectionVars false
section
namespace Go.Lens.Tb
open Go.Proofs Go.Proofs.YtomghboflcafbaaGreatDoor Go.RowKit Go.ChangeShapes Go.WideShapes Go.ChangeAt
set_option maxRecDepth 100000
theorem ownK:ownKnob Tryz.prog.godebug=none:=by kernel_rfl
theorem laidOut:laidOutB Tryz.prog=true:=by kernel_rfl
theorem laid_witness (os:Os) (args:Array Value):laidMetH Tryz.prog Rows.nightSafeRow.laid ((World.laidAll Tryz.prog os Rows.nightSafeRow.laid).forCall (fun _ _=>0) ⟨#[],args,[]⟩).memory:=by
  rw[MakeChecks.laidMetH_plain _ _ _ plainLaid];exact laidMet_laidAll _ (by kernel_rfl) (by kernel_rfl)
theorem below_of [Lz] {W W':World} {val:DV} {ms:List (Nat×MO)} {G':Gh} {r:Value} (S:Stepped gh0 W (qx []) val ms G' W' r):Below W.heap.size W W':=
  ⟨S.later.os,S.later.tape,S.later.output,S.later.size,fun k hk=>(S.later.cold k hk Z).1⟩
theorem calls_of [Lz] {f:FuncId} {ds:List DV} {W:World} {args:Array Value} {b:Bool} (he:(callFunc f args).run Tryz.prog W=.ok (.enter f args) W) (hl:∀ b o,Lz.L b=some o->W.heap[b]? =some o)
    (H:q6 Tryz.prog f ds (qx []) (.pv (.lit (.bool b))) []) (hr:qD gh0 (gh0.rd W) ds args.toList):Calls Tryz.prog f args W fun e W'=>e=.returned (.bool b)/\Below W.heap.size W W':=by
  rcases H.call gh0 W args (inv0 W hl) hr with ⟨_,h⟩|⟨r,w',h,_⟩
  · refine h.mono ?_
    rintro e W' ⟨r,rfl,G',S⟩
    have hv:=S.hval
    exact⟨by rw[(qC (G:=G') (R:=G'.rd W') hv).1],below_of S⟩
  · rw[he] at h;cases h
theorem okWide_u8 {P:Program} {w:World} {r:Reach} {base:Nat} {t:TypeId} {n:Int} (ht:P.underlying t=some (.int .u8)) (h:Value.okWide P w r base t (.int .u8 n)):0<=n/\n<=255:=by
  simp[Value.okWide,ht,Cell.okWide,Cell.ok,IntKind.has] at h
  have e1:IntKind.min .u8=0:=by decide
  have e2:IntKind.max .u8=255:=by decide
  omega
theorem lifted_nightSafe (hm:∀ [Lz],HMa) (os:Os) (started:os.Started) (H:Type) (enc:TypeId×Value->H) :
    ReturnsInHanded {} Tryz.checked os 15 .any (fun w args=>(Rows.nightSafeSpec.pre enc Tryz.prog Tryz.f15 [] false w args/\laidMetH Tryz.prog Rows.nightSafeRow.laid w)/\sizedMet enc Tryz.prog Tryz.f15 (OpenSpec.ofChange Rows.nightSafeSpec) false w args)
      (Rows.nightSafeSpec.post enc Tryz.prog Tryz.f15 false true false false):=by
  refine returnsInHanded_of_change_and (C:=Tryz.checked) (X:=fun w _=>laidMetH Tryz.prog Rows.nightSafeRow.laid w) (fun _ _ _ hh h=>h.of_heap hh) ownK started (by kernel_rfl) Tryz.func15
    (ChangeSpec.witness_shaped (enc:=enc) (C:=Tryz.checked) (os:=os) (X:=fun w _=>laidMetH Tryz.prog Rows.nightSafeRow.laid w) false (World.laidAll Tryz.prog os Rows.nightSafeRow.laid) #[.slice none 0 0,.int .u8 0] 8 (World.laidAll_os _ _ _)
      (World.shaped_of_ZipB (by kernel_rfl) (by kernel_rfl)) (by kernel_rfl) (by kernel_rfl) (by kernel_rfl) (laid_witness os _)) ?_
  intro W base args ds gs before hval0 hW _ hsz0 hL _
  have hval:∀ (j:Nat) t v,Tryz.f15.params[j]? =some t->args[j]? =some v->Value.okWide Tryz.prog W .any base t v:=hval0
  have hsz:(DataW.weightsEach Tryz.prog (Tryz.f15.params.toList++Rows.nightSafeSpec.plain.varTypes Tryz.prog) (ds++gs)).all (· <=reachBytes)=true:=hsz0
  have hW':=hW
  obtain⟨p,q,hA0,hV,rfl,_,_⟩:=hW
  have hA:DataW.TrodAll enc Tryz.prog W 0 (fun _=>true) true Tryz.f15.params.toList args.toList ds p:=hA0
  rw[Tryz.params15] at hA hval hsz
  obtain⟨v0,v1,d0,d1,p0,p1,rfl,rfl,rfl,h0,h1⟩:=trodAll_two hA
  obtain⟨rfl,rfl⟩:=trodVars_none hV
  simp only[zS] at hW' hsz
  have hlt:∀ x∈p0++p1,x.block<W.heap.size:=fun x hx=>by simpa using hW'.lt x hx
  obtain⟨fuel0,hf0⟩:=h0
  obtain⟨fuel1,hf1⟩:=h1
  obtain⟨a0,n0,k0,rfl⟩:=okWide_slice Tryz.underlying121 (hval 0 121 v0 rfl rfl)
  obtain⟨l,v0',e0,hr0,hl0⟩:=read_evs hf0
  obtain rfl:Value.slice a0 n0 k0=v0':=by simpa [Value.cells] using e0
  have hb:Tryz.prog.bytesOf 119=88:=by kernel_rfl
  have hlen0:l.length*88<=140737488355328:=by
    rcases hl0 with ⟨rfl,_⟩|⟨es,rest,hd,hn⟩
    · simp
    · simp only at hd
      subst hd
      have:=sized_slice hsz (j:=0) (t:=121) (e:=119) Z Z Tryz.underlying121
      rw[hb] at this
      simp only[reachBytes] at this
      omega
  obtain⟨tm,rfl⟩:=okWide_int Tryz.underlying5 (hval 1 5 v1 rfl rfl)
  have htm:=okWide_u8 Tryz.underlying5 (hval 1 5 _ Z Z)
  letI:Lz:=lzOf W
  have hrel:qD gh0 (gh0.rd W) [.pv (.slice (List.map Go.Lens.Tm.eE l)),.pv (.lit (.int .u8 tm))] #[Value.slice a0 n0 k0,.int .u8 tm].toList:=by
    simp only[qD,qz]
    refine⟨_,_,rfl,hr0,_,_,rfl,?_,rfl⟩
    unfold qN
    exact⟨rfl,rfl⟩
  have hpow:qH:=powLaid_of hL
  have hc:=calls_of (Tryz.call15 _ _) (lzOf_laid W) (Go.Lens.Tm.w15 (awake_ok hpow hm) hpow (errLaid_of hL) hm Go.Lens.Tm.join_ok Go.Lens.Tm.join2_ok l tm (by omega) htm.1 htm.2) hrel
  refine hc.mono fun e W' ⟨he,hb⟩=>?_
  subst he
  have hargs:∀ {t:TypeId} {v:Value} {d:DataW H} {ps:List MemPlace},Tryz.prog.readableRec t=true->t<Tryz.prog.types.size->DataW.Trod enc Tryz.prog W 0 (fun _=>true) true t v d ps->(∀ x∈ps,x.block<W.heap.size)->
      DataW.Trod enc Tryz.prog W' 0 (fun b=>decide (b<W.heap.size)) true t v d ps:=fun hr ht h0 hl=>Below.trod laidOut hr ht h0 hb hl
  refine⟨_,rfl,_,_,_,[],p0++p1,[],hW',?_,trodAll_mk2 (hargs (by kernel_rfl) (of_decide_eq_true (by kernel_rfl)) ⟨fuel0,hf0⟩ fun x hx=>hlt x (by simp[hx])) (hargs (by kernel_rfl) (of_decide_eq_true (by kernel_rfl)) ⟨fuel1,hf1⟩ fun x hx=>hlt x (by simp[hx])),rfl,hb.frame _,fun h=>by cases h⟩
  exact trodAll_mk1 (shut_bool Tryz.underlying4 _)
end Go.Lens.Tb
end
