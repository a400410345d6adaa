/- A part of the proof that NightLogsCardSaid holds, without conditions. -/
import Derived.Test.YtomghboflcafbaaGreatDoorL3
import Derived.Test.YtomghboflcafbaaGreatDoorTie
import Derived.Test.YtomghboflcafbaaGreatDoorCards
import Derived.Lay
import Derived.SevenTiedAt
set_option linter.unusedVariables false
set_option linter.unusedSimpArgs false
section
namespace Go.Lens.Tb
open Go.Proofs Go.Proofs.YtomghboflcafbaaGreatDoor Go.RowKit Go.ChangeShapes Go.WideShapes Go.ChangeAt
set_option linter.unusedSectionVars false
set_option maxRecDepth 100000
theorem ownK:ownKnob Tryz.prog.godebug=none:=by kernel_rfl
theorem laidOut:laidOutB Tryz.prog=true:=by kernel_rfl
theorem laid_witness (os:Os) (args:Array Value):laidMetH Tryz.prog Rows.nightLogsRow.laid ((World.laidAll Tryz.prog os Rows.nightLogsRow.laid).forCall (fun _ _=>0) ⟨#[],args,[]⟩).memory:=by
  rw[MakeChecks.laidMetH_plain _ _ _ plainLaid];exact laidMet_laidAll _ (by kernel_rfl) (by kernel_rfl)
theorem below_of [Lz] {W W':World} {val:DV} {ms:List (Nat×MO)} {G':Gh} {r:Value} (S:Stepped gh0 W (lookM []) val ms G' W' r):Below W.heap.size W W':=
  ⟨S.later.os,S.later.tape,S.later.output,S.later.size,fun k hk=>(S.later.cold k hk rfl).1⟩
theorem calls_of [Lz] {f:FuncId} {ds:List DV} {W:World} {args:Array Value} {b:Bool} (he:(callFunc f args).run Tryz.prog W=.ok (.enter f args) W) (hl:∀ b o,Lz.L b=some o→W.heap[b]? =some o)
    (H:CallOk Tryz.prog f ds (lookM []) (.pv (.lit (.bool b))) []) (hr:RelDVs gh0 (gh0.rd W) ds args.toList):Calls Tryz.prog f args W fun e W'=>e=.returned (.bool b)∧Below W.heap.size W W':=by
  rcases H.call gh0 W args (inv0 W hl) hr with ⟨_,h⟩|⟨r,w',h,_⟩
  · refine h.mono ?_
    rintro e W' ⟨r,rfl,G',S⟩
    have hv:=S.hval
    exact⟨by rw[(RelDV_lit_eq (G:=G') (R:=G'.rd W') hv).1],below_of S⟩
  · rw[he] at h;cases h
theorem lifted_nightLogs (hm:∀ [Lz],OrcOk Tryz.prog (mergeO 121)) (os:Os) (started:os.Started) (H:Type) (enc:TypeId×Value→H) :
    ReturnsInHanded {} Tryz.checked os 11 .any (fun w args=>(Rows.nightLogsSpec.pre enc Tryz.prog Tryz.f11 [] false w args∧laidMetH Tryz.prog Rows.nightLogsRow.laid w)∧sizedMet enc Tryz.prog Tryz.f11 (OpenSpec.ofChange Rows.nightLogsSpec) false w args)
      (Rows.nightLogsSpec.post enc Tryz.prog Tryz.f11 false true false false):=by
  refine returnsInHanded_of_change_and (C:=Tryz.checked) (X:=fun w _=>laidMetH Tryz.prog Rows.nightLogsRow.laid w) (fun _ _ _ hh h=>h.of_heap hh) ownK started (by kernel_rfl) Tryz.func11
    (ChangeSpec.witness_shaped (enc:=enc) (C:=Tryz.checked) (os:=os) (X:=fun w _=>laidMetH Tryz.prog Rows.nightLogsRow.laid w) false (World.laidAll Tryz.prog os Rows.nightLogsRow.laid) #[.agg #[.int .i64 0,.string ByteArray.empty,.slice none 0 0,.slice none 0 0,.string ByteArray.empty],.string ByteArray.empty] 8 (World.laidAll_os _ _ _)
      (World.shaped_of_ZipB (by kernel_rfl) (by kernel_rfl)) (by kernel_rfl) (by kernel_rfl) (by kernel_rfl) (laid_witness os _)) ?_
  intro W base args ds gs before hval0 hW _ hsz0 hL _
  have hval:∀ (j:Nat) t v,Tryz.f11.params[j]? =some t→args[j]? =some v→Value.okWide Tryz.prog W .any base t v:=hval0
  have hsz:(DataW.weightsEach Tryz.prog (Tryz.f11.params.toList++Rows.nightLogsSpec.plain.varTypes Tryz.prog) (ds++gs)).all (· ≤reachBytes)=true:=hsz0
  have hW':=hW
  obtain⟨p,q,hA0,hV,rfl,_,_⟩:=hW
  have hA:DataW.TrodAll enc Tryz.prog W 0 (fun _=>true) true Tryz.f11.params.toList args.toList ds p:=hA0
  rw[Tryz.params11] at hA hval hsz
  obtain⟨v0,v1,d0,d1,p0,p1,rfl,rfl,rfl,h0,h1⟩:=trodAll_two hA
  obtain⟨rfl,rfl⟩:=trodVars_none hV
  simp only[List.append_nil] at hW' hsz
  have hlt:∀ x∈p0++p1,x.block<W.heap.size:=fun x hx=>by simpa using hW'.lt x hx
  obtain⟨fuel0,hf0⟩:=h0
  obtain⟨fuel1,hf1⟩:=h1
  obtain⟨c0,rfl,_,_⟩:∃ cs,v0=.agg cs∧cs.size=Tryz.prog.cellsOf 119∧Row.okWide Tryz.prog W .any base 119 cs:=by
    have:=hval 0 119 v0 rfl rfl
    unfold Value.okWide at this
    rw[Tryz.underlying119] at this
    exact this
  obtain⟨s,rfl⟩:=okWide_string Tryz.underlying9 (hval 1 9 v1 rfl rfl)
  obtain⟨e,vn,vv,e0,hrn,hrv⟩:=read_ev hf0
  letI:Lz:=lzOf W
  have e0':c0.toList=[.int .i64 e.1,.string (bsO e.2.1),vn,vv,.string (bsO e.2.2.2.2)]:=e0
  have hrel:RelDVs gh0 (gh0.rd W) [.pv (Go.Lens.Tm.gV e),.pv (.lit (.string (bsO s.data.toList)))] #[Value.agg c0,.string s].toList:=by
    simp only[RelDVs,RelDV]
    refine⟨_,_,rfl,?_,_,_,rfl,?_,rfl⟩
    · simp only[RelPV]
      refine⟨c0,rfl,?_,?_⟩
      · rw[e0']
        intro x hx
        simp only[List.mem_cons,List.mem_nil_iff,or_false] at hx
        rcases hx with rfl|rfl|rfl|rfl|rfl<;>first|rfl|exact slice_one hrn|exact slice_one hrv
      · rw[e0']
        simp only[RelVals]
        refine⟨_,_,rfl,?_,_,_,rfl,?_,_,_,rfl,hrn,_,_,rfl,hrv,_,_,rfl,?_,rfl⟩<;>(unfold RelPV;exact⟨rfl,rfl⟩)
    · unfold RelPV;exact⟨rfl,rfl⟩
  have hpow:PowLaid:=powLaid_of hL
  have hc:=calls_of (Tryz.call11 _ _) (lzOf_laid W) (Go.Lens.Tm.w11 (awake_ok hpow hm) hpow (errLaid_of hL) hm Go.Lens.Tm.join_ok Go.Lens.Tm.join2_ok Go.Lens.Tm.joinW_ok e s.data.toList) hrel
  refine hc.mono fun e W' ⟨he,hb⟩=>?_
  subst he
  have hargs:∀ {t:TypeId} {v:Value} {d:DataW H} {ps:List MemPlace},Tryz.prog.readableRec t=true→t<Tryz.prog.types.size→DataW.Trod enc Tryz.prog W 0 (fun _=>true) true t v d ps→(∀ x∈ps,x.block<W.heap.size)→
      DataW.Trod enc Tryz.prog W' 0 (fun b=>decide (b<W.heap.size)) true t v d ps:=fun hr ht h0 hl=>Below.trod laidOut hr ht h0 hb hl
  refine⟨_,rfl,_,_,_,[],p0++p1,[],hW',?_,trodAll_mk2 (hargs (by kernel_rfl) (of_decide_eq_true (by kernel_rfl)) ⟨fuel0,hf0⟩ fun x hx=>hlt x (by simp[hx])) (hargs (by kernel_rfl) (of_decide_eq_true (by kernel_rfl)) ⟨fuel1,hf1⟩ fun x hx=>hlt x (by simp[hx])),rfl,hb.frame _,fun h=>by cases h⟩
  exact trodAll_mk1 (shut_bool Tryz.underlying4 _)
end Go.Lens.Tb
end
