/- A part of the proof of NightSafeCardSaid, without conditions. -/
import Derived.Test.YtomghboflcafbaaGreatDoorO1
import Derived.Test.YtomghboflcafbaaGreatDoorS10
import Derived.Test.YtomghboflcafbaaGreatDoorS4
import Derived.Lib.ItoaLen
import Derived.Lib.AtoiAllCases
import Derived.Lib.AtoiTie
import Derived.Shelf.Strings.OnBuilder
import Derived.Test.YtomghboflcafbaaGreatDoorProg
import Derived.Shelf.LaysC
import Derived.Shelf.Strconv.ErrVarAll
import Derived.Lib.AtoiErrMem
set_option linter.unusedVariables false
set_option linter.unusedSimpArgs false
set_option linter.unusedSectionVars false
section
namespace Go.Lens.Tm
open Go.Lens.Tb Go.Proofs
set_option maxRecDepth 100000
variable [Lz]
def stD (s:LSt):DV:=.pv (.agg (stPV s))
def nmD (a:List UInt8):DV:=.pv (.lit (.string (bsO a)))
def rsD (r:LSt×Int):DV:=.tup [.pv (.agg (stPV r.1)),.pv (.lit (.int .i64 r.2))]
abbrev rowOk (f:FuncId) (s:LSt):Prop:=(ju.map fun a=>orc 60 f 0 [stD s,nmD a] [])=ju.map fun a=>some (rsD (Zu s a),[])
theorem ar139_0:rowOk 139 (ZT,0,false,false):=by unfold rowOk;kernel_rfl
theorem ar139_1:rowOk 139 (ZT,0,false,true):=by unfold rowOk;kernel_rfl
theorem ar139_2:rowOk 139 (ZT,0,true,false):=by unfold rowOk;kernel_rfl
theorem ar139_3:rowOk 139 (ZT,0,true,true):=by unfold rowOk;kernel_rfl
theorem ar139_4:rowOk 139 (mOpen,0,false,false):=by unfold rowOk;kernel_rfl
theorem ar139_5:rowOk 139 (mOpen,0,true,false):=by unfold rowOk;kernel_rfl
theorem ar139_6:rowOk 139 (jg,0,false,false):=by unfold rowOk;kernel_rfl
theorem ar139_7:rowOk 139 (jg,1,false,false):=by unfold rowOk;kernel_rfl
theorem ar139_8:rowOk 139 (jg,2,false,false):=by unfold rowOk;kernel_rfl
theorem ar139_9:rowOk 139 (mSafe,0,false,false):=by unfold rowOk;kernel_rfl
theorem ar139_10:rowOk 139 (mSafe,0,false,true):=by unfold rowOk;kernel_rfl
theorem ar139_11:rowOk 139 (mSafe,0,true,false):=by unfold rowOk;kernel_rfl
theorem ar139_12:rowOk 139 (mSafe,0,true,true):=by unfold rowOk;kernel_rfl
theorem ar139:∀ s∈sts,rowOk 139 s:=(zG.2 ⟨ar139_0,(zG.2 ⟨ar139_1,(zG.2 ⟨ar139_2,(zG.2 ⟨ar139_3,(zG.2 ⟨ar139_4,(zG.2 ⟨ar139_5,(zG.2 ⟨ar139_6,(zG.2 ⟨ar139_7,(zG.2 ⟨ar139_8,(zG.2 ⟨ar139_9,(zG.2 ⟨ar139_10,(zG.2 ⟨ar139_11,(zG.2 ⟨ar139_12,(fun _ h=>nomatch h)⟩)⟩)⟩)⟩)⟩)⟩)⟩)⟩)⟩)⟩)⟩)⟩)⟩)
theorem ar184_0:rowOk 184 (ZT,0,false,false):=by unfold rowOk;kernel_rfl
theorem ar184_1:rowOk 184 (ZT,0,false,true):=by unfold rowOk;kernel_rfl
theorem ar184_2:rowOk 184 (ZT,0,true,false):=by unfold rowOk;kernel_rfl
theorem ar184_3:rowOk 184 (ZT,0,true,true):=by unfold rowOk;kernel_rfl
theorem ar184_4:rowOk 184 (mOpen,0,false,false):=by unfold rowOk;kernel_rfl
theorem ar184_5:rowOk 184 (mOpen,0,true,false):=by unfold rowOk;kernel_rfl
theorem ar184_6:rowOk 184 (jg,0,false,false):=by unfold rowOk;kernel_rfl
theorem ar184_7:rowOk 184 (jg,1,false,false):=by unfold rowOk;kernel_rfl
theorem ar184_8:rowOk 184 (jg,2,false,false):=by unfold rowOk;kernel_rfl
theorem ar184_9:rowOk 184 (mSafe,0,false,false):=by unfold rowOk;kernel_rfl
theorem ar184_10:rowOk 184 (mSafe,0,false,true):=by unfold rowOk;kernel_rfl
theorem ar184_11:rowOk 184 (mSafe,0,true,false):=by unfold rowOk;kernel_rfl
theorem ar184_12:rowOk 184 (mSafe,0,true,true):=by unfold rowOk;kernel_rfl
theorem ar184:∀ s∈sts,rowOk 184 s:=(zG.2 ⟨ar184_0,(zG.2 ⟨ar184_1,(zG.2 ⟨ar184_2,(zG.2 ⟨ar184_3,(zG.2 ⟨ar184_4,(zG.2 ⟨ar184_5,(zG.2 ⟨ar184_6,(zG.2 ⟨ar184_7,(zG.2 ⟨ar184_8,(zG.2 ⟨ar184_9,(zG.2 ⟨ar184_10,(zG.2 ⟨ar184_11,(zG.2 ⟨ar184_12,(fun _ h=>nomatch h)⟩)⟩)⟩)⟩)⟩)⟩)⟩)⟩)⟩)⟩)⟩)⟩)⟩)
theorem act_known (hp:qH) (hm:HMa) {s:LSt} {a:List UInt8} (hs:s∈sts) (ha:a∈ju):CKa 139 [stD s,nmD a] (rsD (Zu s a)):=
 orc_ok hp hm 60 139 0 _ _ _ _ (List.map_inj_left.1 (ar139 s hs) a ha)
theorem act_known2 (hp:qH) (hm:HMa) {s:LSt} {a:List UInt8} (hs:s∈sts) (ha:a∈ju):CKa 184 [stD s,nmD a] (rsD (Zu s a)):=
 orc_ok hp hm 60 184 0 _ _ _ _ (List.map_inj_left.1 (ar184 s hs) a ha)
abbrev ActE:=List UInt8×PV×PV
def eA (e:ActE):List PV:=[.lit (.string (bsO (Prod.fst e))),Prod.fst (Prod.snd e),Prod.snd (Prod.snd e)]
def zA:ActE:=([],.lit .nilFunc,.lit .nilFunc)
def fnA (f:FuncId):PV:=.fn (.func f) [] []
def toA (m:List UInt8):PV:=.fn (.func 282) [] [.box [.lit (.string (bsO m))]]
def kA:List ActE:=[(aStart,fnA 222,toA mOpen),(aClose,fnA 224,toA jg),(aOpen,fnA 225,toA mOpen),(aStop,fnA 226,toA ZT),(aSat,fnA 227,fnA 228),(aClear,fnA 229,fnA 230),(aLose,fnA 231,fnA 232),(aFind,fnA 234,fnA 235),(aGust,fnA 236,fnA 237),(aCalm,fnA 238,fnA 239),(aReset,fnA 240,toA ZT)]
theorem acts_run:orc 60 161 2000 [] []=some (.aref 2018 0,[(2018,.arr 0 3 287 (List.map eA kA))]):=by kernel_rfl
theorem w161 (hp:qH) (hm:HMa):q6 Tryz.prog 161 [] (qx []) (.aref 2018 0) [(2018,.arr 0 3 287 (List.map eA kA))]:=orc_ok hp hm 60 161 2000 _ _ _ _ acts_run
theorem acts_names:kA.map (fun e=>e.1)=ju:=rfl
theorem act_none {a:List UInt8} (ha:a∉ju):kI (fun e=>decide (e.1=a)) kA= -1:=
 kG (z:=zA) fun j hj=>zk fun e=>ha (by rw[<-acts_names,<-e];exact zE.2 ⟨_,getD_mem hj,rfl⟩)
end Go.Lens.Tm
end
section
namespace Go.Lens.Tm
open Go.Lens.Tb Go.Proofs
theorem act_no {s:LSt} {a:List UInt8} (ha:a∉ju):Zu s a=(zSt,13):=by rw[Zu,if_neg ha]
theorem act_any {a:List UInt8} (ha:a∉ju):(List.any ju (fun y=>decide (y=a)))=false:=by
 rw[List.any_eq_false]
 intro x hx
 simp only[zf]
 rintro rfl
 exact ha hx
def MtI (l:List Cmd) (i k:Nat) (q:Int):Prop:=i+k<=l.length/\j3 0 i (l.drop i)=j3 q (i+k) (l.drop (i+k))/\((k=0/\q=0)\/(1<=k/\1<=q))/\q<=k
section
variable {l:List Cmd} {i k:Nat} {q:Int}
theorem mt_start (hi:i<l.length):MtI l i 0 0:=⟨by omega,rfl,.inl ⟨rfl,rfl⟩,Int.le_refl _⟩
theorem mt_drop (h:MtI l i k q):i+k<=l.length/\0<=q/\q<=k/\List.length (List.drop i l)=List.length l-i:=by
 obtain⟨h1,_,h3,h4⟩:=h
 exact⟨h1,by omega,h4,zo⟩
theorem getD_dropC (l:List Cmd) (i k:Nat):(l.drop i).getD k z3=l.getD (i+k) z3:=by
 rw[ze,List.getElem?_drop,<-ze]
theorem mt_rep (h:MtI l i k q) (hk:i+k<l.length) (h0:((l.drop i).getD k z3).1=ZA):MtI l i (k+1) (q+1):=by
 rw[getD_dropC] at h0
 obtain⟨h1,h2,h3,h4⟩:=h
 exact⟨by omega,h2.trans (mat_rep hk h0),.inr ⟨by omega,by omega⟩,by omega⟩
theorem mt_end (h:MtI l i k q) (hk:i+k<l.length) (h0:((l.drop i).getD k z3).1=kEnd) (hr:(l.getD i z3).1=ZA) (hq:¬q-1=0):MtI l i (k+1) (q-1):=by
 rw[getD_dropC] at h0
 obtain⟨h1,h2,h3,h4⟩:=h
 have hk0:k≠0:=by
  rintro rfl
  exact absurd (hr.symm.trans h0) kO
 refine⟨by omega,h2.trans ((mat_end hk h0).trans (if_neg hq)),.inr ⟨by omega,by omega⟩,by omega⟩
theorem mt_one (h:MtI l i k q) (hk:i+k<l.length) (h0:((l.drop i).getD k z3).1≠ZA) (h5:((l.drop i).getD k z3).1≠kEnd) (hr:(l.getD i z3).1=ZA):MtI l i (k+1) q:=by
 rw[getD_dropC] at h0 h5
 obtain⟨h1,h2,h3,h4⟩:=h
 have hk0:k≠0:=by
  rintro rfl
  exact h0 hr
 exact⟨by omega,h2.trans (mat_one hk h0 h5),by omega,by omega⟩
theorem mt_found (h:MtI l i k q) (hk:i+k<l.length) (h0:((l.drop i).getD k z3).1=kEnd) (hq:q-1=0):j3 0 i (l.drop i)=i+k:=by
 rw[getD_dropC] at h0
 obtain⟨h1,h2,h3,h4⟩:=h
 exact h2.trans ((mat_end hk h0).trans (if_pos hq))
theorem mt_no (h:MtI l i k q) (hq:q=0) (h0:¬((l.drop i).getD k z3).1=ZA) (hr:(l.getD i z3).1=ZA):False:=by
 obtain⟨_,_,h3,_⟩:=h
 have hk:k=0:=by omega
 subst hk
 rw[getD_dropC] at h0
 exact h0 hr
theorem mt_stop {d:Nat} (hw:Wf d (l.drop i)) (hi:i<l.length) (hr:(l.getD i z3).1=ZA) (h:MtI l i k q):((k:Nat):Int)<((List.length (l.drop i):Nat):Int):=by
 obtain⟨d1,e,_,he,he1,he2,_⟩:=wf_at hw hi hr
 obtain⟨h1,h2,h3,h4⟩:=h
 by_cases hk:i+k<l.length
 ·rw[zo];omega
 have h5:=h2.trans (mat_nil (by omega))
 omega
end
theorem tms_split {n j:Nat} (u:List Cmd) (h:j<=n):tms n u=tms j u++tms (n-j) u:=by
 obtain⟨k,rfl⟩:∃ k,n=j+k:=⟨n-j,by omega⟩
 rw[show j+k-j=k by omega]
 clear h
 induction k with
 | zero=>rw[Nat.add_zero,tms_zero,zS]
 | succ k ih=>rw[<-Nat.add_assoc,tms_succ,tms_succ,ih,z7]
theorem unr_chk {d:Nat} {b:List Cmd} (hw:Wf d b) (hc:∀ c∈b,jI c=0):∀ c∈q9 b,jI c=0:=fun c h=>hc c ((wf_unr_len hw hc).2 c h).1
end Go.Lens.Tm
end
section
namespace Go.Lens.Tm
open Go.Lens.Tb Go.Proofs
variable [Lz]
set_option maxHeartbeats 4000000
set_option maxRecDepth 100000
attribute [local irreducible] TK PK T RG EfR Body CG
theorem ag287:aggT tab 287=some true:=by kernel_rfl
theorem ag81:aggT tab 81=some true:=by kernel_rfl
theorem sz287:szT tab 287=some 3:=by kernel_rfl
theorem sz81:szT tab 81=some 4:=by kernel_rfl
theorem un282:tab.underlying 282=some (.slice 287):=by kernel_rfl
theorem w189 (e:ActE) (a:List UInt8):CKa 189 [.pv (.agg [pS (bsO e.1),e.2.1,e.2.2]),.pv (.box [pS (bsO a)])] (vB (decide (e.1=a))):=by
 exact cG qf189 Z (nB Z) Z (E Z (B.seqB (a:=e.1) (b:=a) Z Z) (Rt Z (leaf Z Z)))
theorem w188 (l:List ActE) (a:List UInt8) (hl:l.length<=1000000000000000):CKa 188 [vL eA l,.pv (.fn (.func 189) [] [.box [pS (bsO a)]])] (vI (kI (fun e=>decide (e.1=a)) l)):=by
 refine cG qf188 Z (nB Z) Z (E Z (B.jh Z un282) (l1 (fun (k:Nat)=>[(0,vL eA l),(1,.pv (.fn (.func 189) [] [.box [pS (bsO a)]])),(7,vI l.length),(8,vI k)]) (fun _=>[]) (fun k=>k<=l.length/\∀ j,j<k->decide ((l.getD j zA).1=a)=false) (fun k=>l.length-k) 0 Z ?_ (sb Z Z Z) ?_))
 · exact⟨zq _,fun j hj=>by omega⟩
 intro k hI0
 refine Cp Z Z (fun h1=>?_) (fun h1=>?_)
 ·refine E Z (B.idx (z:=zA) (i:=k) Z Z un282 sz287 (fun _=>rfl) Z (by omega)) (C Z (w189 (l.getD k zA) a) Z Z Z (Cp Z Z (fun h2=>?_) (fun h2=>?_)))
  ·exact Rt Z (leaf (val0:=vI k) (by kernel_rfl) (li (by exact (Za (p:=(fun e=>decide (e.1=a))) (l:=l) (z:=zA) k (by omega) hI0.2 (zl h2)).symm)))
  refine E Z (B.add Z Z (by unfold R64;omega)) (pk Z (L1 (k+1) ?_ ?_ (sb Z Z Z)))
  · (refine⟨by omega,fun j hj=>?_⟩;rcases zy.1 hj with h|h;exact hI0.2 j h;subst h;exact zk h2)
  · omega
 exact Rt Z (leaf (val0:=vI (-1)) (by kernel_rfl) (li (by exact (kG (p:=(fun e=>decide (e.1=a))) (l:=l) (z:=zA) fun j hj=>hI0.2 j (by omega)).symm)))
theorem w139n (hp:qH) (hm:HMa) (s:LSt) (a:List UInt8) (hs:s∈sts) (ha:a∉ju):CKa 139 [.pv (gS s),vS (bsO a)] (.tup [.pv (gS (Zu s a).1),vI (Zu s a).2]):=by
 refine cG qf139 Z (nB Z) Z (C Z (w123 s) Z Z Z (Cp Z Z (fun h1=>?_) (fun h1=>?_)))
 ·exact absurd (st_chk s hs) h1
 refine E Z (B.kU (l:=[]) (w161 hp hm) Z Z trivial Z Z) (Fb 5 3 Z Z Z Z (Fz 5 7 Z Z Z (C Z (w188 kA a (nB Z)) Z Z Z (Cp Z Z (fun h2=>?_) (fun h2=>?_)))))
 ·exact Rt Z (leaf (val0:=.tup [.pv (.agg [pS ⟨#[]⟩,pI 0,pB false,pB false]),vI 13]) (by kernel_rfl) (tup2 (lag (q5 (pls (by (rw[act_no ha];rfl))) (q5 (pli (by (rw[act_no ha];rfl))) (q5 (plb (by (rw[act_no ha];rfl))) (q5 (plb (by (rw[act_no ha];rfl))) Z))))) (li (by (rw[act_no ha])))))
 exact absurd (act_none ha) (by omega)
theorem w272:CKa 272 [] (vL eN ju):=by
 exact cG qf272 Z (nB Z) Z (E Z (B.j8 (enc:=eN) Z) (E Z (B.jj (val:=.pv (.slice (List.map eN [[115,116,97,114,116],[99,108,111,115,101],[111,112,101,110],[115,116,111,112],[115,97,116,117,114,97,116,101],[99,108,101,97,114],[108,111,115,101],[102,105,110,100],[103,117,115,116],[99,97,108,109],[114,101,115,101,116]]))) Z (fun l=>Frz.arr l _ _ _ _ _) Z) (Rt Z (leaf (val0:=vL eN [[115,116,97,114,116],[99,108,111,115,101],[111,112,101,110],[115,116,111,112],[115,97,116,117,114,97,116,101],[99,108,101,97,114],[108,111,115,101],[102,105,110,100],[103,117,115,116],[99,97,108,109],[114,101,115,101,116]]) (by kernel_rfl) (lsl (by rfl))))))
theorem w252 (a:List UInt8):CKa 252 [vS (bsO a)] (vB (List.any ju (fun y=>decide (y=a)))):=by
 refine cG qf252 Z (nB Z) Z (C Z (w272) Z Z Z (l1 (fun (k:Nat)=>[(0,vS (bsO a)),(3,vL eN ju),(4,vI k)]) (fun _=>[]) (fun k=>k<=ju.length/\∀ j,j<k->¬(ju.getD j []=a)) (fun k=>ju.length-k) 0 Z ?_ (sb Z Z Z) ?_))
 · exact⟨zq _,fun j hj=>by omega⟩
 intro k hI0
 refine E Z (B.jh Z ji) (Cp Z Z (fun h1=>?_) (fun h1=>?_))
 ·refine E Z (B.idx (z:=[]) (i:=k) Z Z ji sz9 (fun _=>rfl) Z (by omega)) (E Z (B.seqB (a:=(ju.getD k [])) (b:=a) Z Z) (Cp Z Z (fun h2=>?_) (fun h2=>?_)))
  ·exact Rt Z (leaf (val0:=vB true) (by kernel_rfl) (lb (by (exact (List.any_eq_true.2 ⟨_,getD_mem (z:=[]) (show k<ju.length by omega),zl h2⟩).symm))))
  refine E Z (B.add Z Z (by have hz:ju.length=11:=rfl;unfold R64;omega)) (pk Z (L1 (k+1) ?_ ?_ (sb Z Z Z)))
  · (refine⟨by omega,fun j hj=>?_⟩;rcases zy.1 hj with h|h;exact hI0.2 j h;subst h;exact h2)
  · omega
 exact Rt Z (leaf (val0:=vB false) (by kernel_rfl) (lb (by (exact (any_getD_none [] (fun j hj=>zk (hI0.2 j (by omega)))).symm))))
theorem w184n (s:LSt) (a:List UInt8) (ha:a∉ju):CKa 184 [.pv (gS s),vS (bsO a)] (.tup [.pv (gS (Zu s a).1),vI (Zu s a).2]):=by
 refine cG qf184 Z (nB Z) Z (C Z (w252 a) Z Z Z (Cb Z Z (fun h1=>?_) (fun h1=>?_)))
 ·exact Rt Z (leaf (val0:=.tup [.pv (.agg [pS ⟨#[]⟩,pI 0,pB false,pB false]),vI 13]) (by kernel_rfl) (tup2 (lag (q5 (pls (by (rw[act_no ha];rfl))) (q5 (pli (by (rw[act_no ha];rfl))) (q5 (plb (by (rw[act_no ha];rfl))) (q5 (plb (by (rw[act_no ha];rfl))) Z))))) (li (by (rw[act_no ha])))))
 exact absurd h1 (by rw[act_any ha];simp)
theorem w139 (hp:qH) (hm:HMa) {s:LSt} (hs:s∈sts) (a:List UInt8):CKa 139 [.pv (gS s),vS (bsO a)] (.tup [.pv (gS (Zu s a).1),vI (Zu s a).2]):=by
 by_cases h:a∈ju
 ·exact act_known hp hm hs h
 exact w139n hp hm s a hs h
theorem w184 (hp:qH) (hm:HMa) {s:LSt} (hs:s∈sts) (a:List UInt8):CKa 184 [.pv (gS s),vS (bsO a)] (.tup [.pv (gS (Zu s a).1),vI (Zu s a).2]):=by
 by_cases h:a∈ju
 ·exact act_known2 hp hm hs h
 exact w184n s a h
end Go.Lens.Tm
end
section
namespace Go.Lens
variable [Lz]
section
variable {P:Program} {Y:Tab} [qU P Y] {nb:Nat} {s:St} {dst:Option Tmp} {ty u:TypeId} {pos:String} {af:Array Edge} {gd:Option (Nat×Bool)} {t:TypeId} {x y:Operand}
theorem B.remN {a b:Int} (hx:ev1 s x=lit (.int .i64 a)) (hy:ev1 s y=lit (.int .i64 b)) (ha:0<=a) (hb:0<b):Body P Y nb s ⟨dst,.binOp .rem t x y u,ty,pos,af,gd⟩ (lit (.int .i64 (a%b))) [] []:=by
 have e:a.tmod b=a%b:=Int.tmod_eq_emod_of_nonneg ha
 have:=B.rem (P:=P) (Y:=Y) (nb:=nb) (dst:=dst) (ty:=ty) (u:=u) (pos:=pos) (af:=af) (gd:=gd) (t:=t) hx hy (by omega)
 rw[e] at this;exact this
theorem B.storeR {h c v sz hh:Nat} {T T2:TypeId} {ds ds2:List DV} {es:List (List PV)} (hx:ev1 s x=.bref h c) (hm:qx s.ms h=some (.box T ds)) (hy:ev1 s y=.aref hh v) (hm2:qx s.ms hh=some (.arr v sz T2 es))
  (hs:szT Y t=some 1) (hle:Nat.ble (c+1) ds.length=true) (hd:ds.take c++[.aref hh v]++ds.drop (c+1)=ds2):Body P Y nb s ⟨dst,.store t x y,ty,pos,af,gd⟩ .dead [(h,.box T ds2)] [h,hh]:=by
 subst hd
 refine .inr (Zp.of fun σ G a w hv hl I=>?_)
 have hX:=hv x (by simp[Op.operands])
 have hY:=hv y (by simp[Op.operands])
 rw[hx] at hX;rw[hy] at hY
 have hlk:qx σ.ms h=some (.box T ds):=by rw[hl h (.inl (by simp))];exact hm
 have hlk2:qx σ.ms hh=some (.arr v sz T2 es):=by rw[hl hh (.inl (by simp))];exact hm2
 have C:Ctx G w (fun z=>match z with| .tmp 0=>a.eval x| .tmp 1=>a.eval y|_=>undef) (fun z=>match z with| .tmp 0=>.bref h c| .tmp 1=>.aref hh v|_=>.dead) (qx σ.ms) (qx σ.ms):=by
  refine I.mem.ctx2 (fun z=>?_) (fun z k hk=>?_)
  ·split
   ·exact hX
   ·exact hY
   simp only[qz]
  split at hk
  ·simp only[DV.refs,zg] at hk;subst hk;exact⟨_,hlk⟩
  ·simp only[DV.refs,zg] at hk;subst hk;exact⟨_,hlk2⟩
  simp[DV.refs] at hk
 have hcv:storeV Y t (.bref h c) (.aref hh v) (qx σ.ms)=some ⟨true,.dead,[(h,.box T (ds.take c++[.aref hh v]++ds.drop (c+1)))]⟩:=by
  unfold storeV
  have hok:kP (qx σ.ms) (.aref hh v)=true:=by simp[kP,hlk2]
  have hcl:j0 (.aref hh v)=[.aref hh v]:=rfl
  have hdec:decide (c+1<=ds.length)=true:=zl (zY hle)
  simp only[hs,hlk,hok,hcl,zb,zd,Nat.zero_add,beq_self_eq_true,Bool.and_self,qq,hdec]
 obtain⟨w',G',h1,h2⟩:=storeV_sound (P:=P) C (t:=t) (a:=.tmp 0) (x:=.tmp 1) hcv rfl
 refine⟨undef,w',G',.inr ⟨?_,rfl⟩,h2⟩
 have lift:∀ {q:Sem Unit} {w':World},q.run P w=.ok () w'->(do q;Pure.pure Next.skip:Sem Next).run P w=.ok .skip w':=by
  intro q w' h
  simp only[qu,h,qt,qw]
 exact lift (q:=Instr.storeAt _ _ _) h1
end
end Go.Lens
end
section
namespace Go.Lens.Tm
open Go.Lens.Tb Go.Proofs
variable [Lz]
set_option maxHeartbeats 4000000
set_option maxRecDepth 100000
attribute [local irreducible] TK PK T RG EfR Body CG
theorem by164:ty164.info.bytes=24:=by kernel_rfl
theorem in164:tab.info? 164=some ty164.info:=by kernel_rfl
theorem sz86:szT tab 86=some 1:=by kernel_rfl
end Go.Lens.Tm
end
section
namespace Go.Lens.Tm
open Go.Lens.Tb Go.Proofs
theorem unr_bd {out o2 u v w x:List Cmd} {n j:Nat} (h1:out++w=x) (h2:w=tms n u++v) (h3:o2=out++tms j u) (hj:j<n):o2.length+u.length<=x.length:=by
 subst h1 h2 h3
 simp only[za,tms_len]
 have:(j+1)*u.length<=n*u.length:=Nat.mul_le_mul_right _ hj
 rw[Nat.add_mul] at this
 omega
def ZD (bb:Nat) (m:Mc) (c:Cmd):Mc×Int:=
 if c.1=Z7 then (if 999999999<m.2.1+c.2.2 then (m,3) else ((m.1,m.2.1+c.2.2,m.2.2),0))
 else if 1000<=bb+m.2.2.length then (m,5)
 else if (Zu m.1 c.2.1).2≠0 then (m,(Zu m.1 c.2.1).2) else (((Zu m.1 c.2.1).1,m.2.1,m.2.2++[(m.2.1,c.2.1)]),0)
def jb (bb:Nat) (m:Mc):List Cmd->Mc×Int
 | []=>(m,0)
 | c::l=>if (ZD bb m c).2≠0 then ZD bb m c else jb bb (ZD bb m c).1 l
theorem taks_nil {bb:Nat} (m:Mc):jb bb m []=(m,0):=rfl
theorem taks_bad {bb:Nat} {m:Mc} {c:Cmd} {l:List Cmd} (h:(ZD bb m c).2≠0):jb bb m (c::l)=ZD bb m c:=by rw[jb,if_pos h]
theorem taks_ok {bb:Nat} {m:Mc} {c:Cmd} {l:List Cmd} (h:(ZD bb m c).2=0):jb bb m (c::l)=jb bb (ZD bb m c).1 l:=by rw[jb,if_neg (by rw[h];simp)]
theorem taks_app {bb:Nat}:∀ (a:List Cmd) (m:Mc) (b:List Cmd),jb bb m (a++b)=if (jb bb m a).2≠0 then jb bb m a else jb bb (jb bb m a).1 b
 | [],m,b=>by simp[jb]
 | c::a,m,b=>by
  rw[zQ]
  by_cases h:(ZD bb m c).2=0
  ·rw[taks_ok h,taks_ok h,taks_app a]
  rw[taks_bad h,taks_bad h,if_pos h]
def OkN (bb:Nat) (m:Mc):Prop:=m.1∈sts/\0<=m.2.1/\m.2.1<=999999999/\bb+m.2.2.length<=1000
theorem tak1_ok {bb:Nat} {m:Mc} {c:Cmd} (h:OkN bb m) (hc:jI c=0):OkN bb (ZD bb m c).1:=by
 obtain⟨h1,h2,h3,h4⟩:=h
 unfold ZD
 split
 ·rename_i hw
  have:=cnt_wait hc hw
  split
  ·exact⟨h1,h2,h3,h4⟩
  exact⟨h1,by show 0<=m.2.1+c.2.2;omega,by show m.2.1+c.2.2<=999999999;omega,h4⟩
 split
 ·exact⟨h1,h2,h3,h4⟩
 split
 ·exact⟨h1,h2,h3,h4⟩
 rename_i hl ha
 refine⟨act_valid h1 (zi.1 ha),h2,h3,?_⟩
 simp only[za,zb,zd]
 omega
theorem taks_ok2 {bb:Nat}:∀ {l:List Cmd} {m:Mc},OkN bb m->(∀ c∈l,jI c=0)->OkN bb (jb bb m l).1
 | [],m,h,_=>h
 | c::l,m,h,hc=>by
  have k:=tak1_ok h (hc c (qm ..))
  by_cases h0:(ZD bb m c).2=0
  ·rw[taks_ok h0];exact taks_ok2 k fun x hx=>hc x (zO _ hx)
  rw[taks_bad h0];exact k
abbrev xSb (bb:Nat) (m:Mc):List (Nat×MO):=[(9,.box 217 [.pv (.lit (.string (bsO (Prod.fst (Prod.fst m))))),.pv (.lit (.int .i64 (Prod.fst (Prod.snd (Prod.fst m))))),.pv (.lit (.bool (Prod.fst (Prod.snd (Prod.snd (Prod.fst m)))))),.pv (.lit (.bool (Prod.snd (Prod.snd (Prod.snd (Prod.fst m)))))),.pv (.lit (.int .i64 (Prod.fst (Prod.snd m)))),.pv (.lit (.int .i64 (bb:Int))),.aref 900 (List.length (Prod.snd (Prod.snd m)))]),(900,.arr (List.length (Prod.snd (Prod.snd m))) 2 164 (List.map eP (Prod.snd (Prod.snd m))))]
abbrev xOb (bb:Nat) (m:Mc):List (Nat×MO):=[(900,.arr (List.length (Prod.snd (Prod.snd m))) 2 164 (List.map eP (Prod.snd (Prod.snd m)))),(9,.box 217 [.pv (.lit (.string (bsO (Prod.fst (Prod.fst m))))),.pv (.lit (.int .i64 (Prod.fst (Prod.snd (Prod.fst m))))),.pv (.lit (.bool (Prod.fst (Prod.snd (Prod.snd (Prod.fst m)))))),.pv (.lit (.bool (Prod.snd (Prod.snd (Prod.snd (Prod.fst m)))))),.pv (.lit (.int .i64 (Prod.fst (Prod.snd m)))),.pv (.lit (.int .i64 (bb:Int))),.aref 900 (List.length (Prod.snd (Prod.snd m)))])]
theorem xOb_snoc (bb:Nat) (s:LSt) (t:Int) (p:List Stp) (x:Stp):([(900,.arr (p.length+1) 2 164 (List.map eP (p++[x]))),(9,.box 217 [.pv (.lit (.string (bsO (Prod.fst s)))),.pv (.lit (.int .i64 (Prod.fst (Prod.snd s)))),.pv (.lit (.bool (Prod.fst (Prod.snd (Prod.snd s))))),.pv (.lit (.bool (Prod.snd (Prod.snd (Prod.snd s))))),.pv (.lit (.int .i64 t)),.pv (.lit (.int .i64 (bb:Int))),.aref 900 (p.length+1)])]:List (Nat×MO))=xOb bb (s,t,p++[x]):=by
 have:List.length p+1=List.length (p++[x]):=by rw[za];rfl
 rw[this]
section
variable {bb:Nat} {m:Mc} {c:Cmd}
theorem tb_w3 (h1:c.1=Z7) (h2:999999999-m.2.1<c.2.2):ZD bb m c=(m,3):=by rw[ZD,if_pos h1,if_pos (by omega)]
theorem tb_w0 (h1:c.1=Z7) (h2:¬999999999-m.2.1<c.2.2):ZD bb m c=((m.1,m.2.1+c.2.2,m.2.2),0):=by rw[ZD,if_pos h1,if_neg (by omega)]
theorem tb_5 (h1:¬c.1=Z7) (h3:1000<=(bb:Int)+((m.2.2.length:Nat):Int)):ZD bb m c=(m,5):=by rw[ZD,if_neg h1,if_pos (by omega)]
theorem tb_e (h1:¬c.1=Z7) (h3:¬1000<=(bb:Int)+((m.2.2.length:Nat):Int)) (h4:(Zu m.1 c.2.1).2≠0):ZD bb m c=(m,(Zu m.1 c.2.1).2):=by rw[ZD,if_neg h1,if_neg (by omega),if_pos h4]
theorem tb_0 (h1:¬c.1=Z7) (h3:¬1000<=(bb:Int)+((m.2.2.length:Nat):Int)) (h4:¬(Zu m.1 c.2.1).2≠0):ZD bb m c=(((Zu m.1 c.2.1).1,m.2.1,m.2.2++[(m.2.1,c.2.1)]),0):=by rw[ZD,if_neg h1,if_neg (by omega),if_neg h4]
end
theorem tmb_next {bb:Nat} {a b:Mc} {u:List Cmd} {j:Nat} (h:jb bb a (tms j u)=(b,0)) (h0:(jb bb b u).2=0):jb bb a (tms (j+1) u)=((jb bb b u).1,0):=by
 rw[tms_succ,taks_app,h,if_neg (by simp)]
 show jb bb b u=_
 rw[<-h0]
theorem rb_rep {bb:Nat} {a b m:Mc} {u v w x:List Cmd} {n j:Nat} (h1:jb bb m x=jb bb a w) (h2:w=tms n u++v) (h3:jb bb a (tms j u)=(b,0)) (hj:j=n):jb bb m x=jb bb b v:=by
 subst hj
 rw[h1,h2,taks_app,h3,if_neg (by simp)]
theorem rb_bad2 {bb:Nat} {a b m:Mc} {u v w x:List Cmd} {n j:Nat} (h1:jb bb m x=jb bb a w) (h2:w=tms n u++v) (h3:jb bb a (tms j u)=(b,0)) (hj:j<n) (h4:(jb bb b u).2≠0):jb bb m x=jb bb b u:=by
 have e:tms n u++v=tms j u++(u++(tms (n-j-1) u++v)):=by
  rw[tms_split u (show j<=n by omega),show n-j=(n-j-1)+1 by omega]
  rw[show tms (n-j-1+1) u=u++tms (n-j-1) u by unfold tms;rw[List.replicate_succ,List.flatten_cons]]
  simp only[z7,Nat.add_sub_cancel]
 rw[h1,h2,e,taks_app,h3,if_neg (by simp)]
 show jb bb b (u++_)=_
 rw[taks_app,if_pos h4]
section
variable {bb:Nat} {l x:List Cmd} {i d:Nat} {a m:Mc}
theorem rb_bad (h:Wf d (l.drop i)/\OkN bb a/\jb bb m x=jb bb a (q9 (l.drop i))) (hi:i<l.length) (h0:(l.getD i z3).1≠ZA) (h1:(ZD bb a (l.getD i z3)).2≠0):jb bb m x=ZD bb a (l.getD i z3):=by
 rw[h.2.2,wf_next_unr h.1 hi h0,taks_bad h1]
theorem rb_next (h:Wf d (l.drop i)/\OkN bb a/\jb bb m x=jb bb a (q9 (l.drop i))) (hc:∀ c∈l,jI c=0) (hi:i<l.length) (h0:(l.getD i z3).1≠ZA) (h1:(ZD bb a (l.getD i z3)).2=0) :
  i+1<=l.length/\Wf d (l.drop (i+1))/\OkN bb (ZD bb a (l.getD i z3)).1/\jb bb m x=jb bb (ZD bb a (l.getD i z3)).1 (q9 (l.drop (i+1))):=by
 refine⟨by omega,(wf_next h.1 hi h0).2.1,tak1_ok h.2.1 (hc _ (getD_mem hi)),?_⟩
 rw[h.2.2,wf_next_unr h.1 hi h0,taks_ok h1]
theorem rb_end (h:jb bb m x=jb bb a (q9 (l.drop i))) (hi:¬i<l.length):jb bb m x=(a,0):=by
 rw[h,zN (by omega),unrP_nil,taks_nil]
end
section
variable {bb:Nat} {m a:Mc} {c:Cmd} {u:List Cmd} {i:Nat}
theorem xb_w3 (h1:c.1=Z7) (h2:999999999<m.2.1+c.2.2):ZD bb m c=(m,3):=by rw[ZD,if_pos h1,if_pos h2]
theorem xb_w0 (h1:c.1=Z7) (h2:¬999999999<m.2.1+c.2.2):ZD bb m c=((m.1,m.2.1+c.2.2,m.2.2),0):=by rw[ZD,if_pos h1,if_neg h2]
theorem kj {r:Mc×Int} (h:jb bb m u=jb bb a (u.drop i)) (hi:i<u.length) (e:ZD bb a (u.getD i z3)=r) (hr:r.2≠0):jb bb m u=r:=by
 rw[h,dropC hi,taks_bad (by rw[e];exact hr),e]
theorem xb_next {b:Mc} (h:OkN bb a/\jb bb m u=jb bb a (u.drop i)) (hi:i<u.length) (hc:jI (u.getD i z3)=0) (e:ZD bb a (u.getD i z3)=(b,0)):i+1<=u.length/\OkN bb b/\jb bb m u=jb bb b (u.drop (i+1)):=by
 refine⟨by omega,?_,?_⟩
 ·have:=tak1_ok h.1 hc
  rwa [e] at this
 rw[h.2,dropC hi,taks_ok (by rw[e]),e]
theorem xb_end (h:jb bb m u=jb bb a (u.drop i)) (hi:¬i<u.length):jb bb m u=(a,0):=by
 rw[h,zN (by omega),taks_nil]
end
end Go.Lens.Tm
end
section
namespace Go.Lens.Tm
open Go.Lens.Tb Go.Proofs
variable [Lz]
set_option maxHeartbeats 4000000
set_option maxRecDepth 100000
attribute [local irreducible] TK PK T RG EfR Body CG
theorem sz90:szT tab 90=some 1:=by kernel_rfl
theorem w64 (l:List Cmd) (d:Nat) (hw:Wf d l) (hc:∀ c∈l,jI c=0) (hl:l.length<=64) (hd:d<=4)
 (hrec:∀ (b:List Cmd) (d1:Nat),b.length<l.length->Wf d1 b->(∀ c∈b,jI c=0)->d1<=4->CKa 64 [vL eC b] (vL eC (q9 b))):CKa 64 [vL eC l] (vL eC (q9 l)):=by
 refine cG qf64 Z (nB Z) Z ?_
 have hsl:=wf_small hw hd hc hl
 have hul:=(wf_unr_len hw hc).1
 refine E Z (B.j8 (enc:=eC) Z) (E Z (B.adopt 4 3 115 Z Z) (l3 (fun (i:Nat) (v:Nat) (out:List Cmd)=>[(0,vL eC l),(3,.aref 4 v),(4,vI i)]) (fun _ v out=>[(4,.arr v 3 115 (List.map eC out))]) (fun i _ out=>i<=l.length/\Wf d (List.drop i l)/\out++q9 (List.drop i l)=q9 l) (fun i _ _=>l.length-i) 0 0 [] Z ?_ (sb Z Z Z) ?_))
 · exact⟨zq _,hw,rfl⟩
 intro i v out hI0
 have hol:out.length<=(q9 l).length:=by rw[<-hI0.2.2,za];omega
 refine E Z (B.jh Z un83) (Cp Z Z (fun h1=>?_) (fun h1=>?_))
 ·refine E Z (B.idx (z:=z3) (i:=i) Z Z un83 ZI (fun _=>rfl) Z (by omega)) (E Z (B.sneB (a:=(l.getD i z3).1) (b:=[114,101,112,101,97,116]) Z Z) (Cp Z Z (fun h2=>?_) (fun h2=>?_)))
  ·refine E Z (B.idx (z:=z3) (i:=i) Z Z un83 ZI (fun _=>rfl) Z (by omega)) (E Z (B.jj (val:=.pv (.slice (List.map eC [(l.getD i z3)]))) Z (fun l=>Frz.arr l _ _ _ _ _) Z) (E Z (B.append Z Z Z un83 in115 Z (fun _=>rfl) by115 (by (simp only[za,zb,zd];omega))) (E Z (B.add Z Z (by unfold R64;omega)) (pk Z (L3 (i+1) (v+1) (out++[(l.getD i z3)]) ?_ ?_ (sb Z Z Z))))))
   ·
     exact⟨by omega,(wf_next hI0.2.1 (by omega) h2).2.1,by rw[<-hI0.2.2,wf_next_unr hI0.2.1 (by omega) h2];simp⟩
   · omega
  refine C Z (w138 l i (by omega) (by omega)) Z Z Z ?_
  refine tk 8 Z ?_
  refine tn ⟨[(0,vL eC l),(3,.aref 4 v),(4,vI i),(5,vI ((j3 0 i (List.drop i l):Nat):Int))],[(4,.arr v 3 115 (List.map eC out))]⟩ rfl rfl Z ?_
  have hrp:=zi.1 h2
  obtain⟨d1,e,hde,he,he1,he2,hwb,hwr,hle⟩:=wf_at hI0.2.1 (by omega) hrp
  have hue:=wf_at_unr hI0.2.1 (by omega) hrp
  rw[<-he] at hue
  rw[<-he]
  have hcb:∀ c∈List.drop (i+1) (List.take e l),jI c=0:=fun c h=>hc c (zr (zt h))
  have hbl:(List.drop (i+1) (List.take e l)).length<l.length:=by rw[zo,zn];omega
  have hcn:=cnt_rep (hc _ (getD_mem (z:=z3) (k:=i) (by omega))) hrp
  refine kc (E Z (B.add Z Z (by unfold R64;omega)) (E Z (B.slTD (i:=(i+1)) (j:=e) Z Z Z un83 ZI (fun _=>rfl) (by omega) Z (by omega) (by omega)) (C Z (hrec _ d1 hbl hwb hcb (by omega)) Z Z Z (l3 (fun (j:Nat) (u:Nat) (o2:List Cmd)=>[(0,vL eC l),(3,.aref 4 u),(4,vI i),(5,vI e),(6,vL eC (q9 (List.drop (i+1) (List.take e l)))),(7,vI j)]) (fun _ u o2=>[(4,.arr u 3 115 (List.map eC o2))]) (fun j _ o2=>j<=(l.getD i z3).2.2.toNat/\o2=out++tms j (q9 (List.drop (i+1) (List.take e l)))) (fun j _ _=>(l.getD i z3).2.2.toNat-j) 0 v out Z ?_ (sb Z Z Z) ?_))))
  · exact⟨zq _,by rw[tms_zero,zS]⟩
  intro j u o2 hI1
  refine E Z (B.idx (z:=z3) (i:=i) Z Z un83 ZI (fun _=>rfl) Z (by omega)) (Cp Z Z (fun h3=>?_) (fun h3=>?_))
  ·have hbd:=unr_bd hI0.2.2 hue hI1.2 (by omega)
   refine E Z (B.append Z Z Z un83 in115 Z (fun _=>rfl) by115 (by omega)) (E Z (B.add Z Z (by unfold R64;omega)) (pk Z (L3 (j+1) (u+1) (o2++(q9 (List.drop (i+1) (List.take e l)))) ?_ ?_ (sb Z Z Z))))
   · exact⟨by omega,by rw[hI1.2,tms_succ,z7]⟩
   · omega
  refine E Z (B.add Z Z (by unfold R64;omega)) (pk Z (L3 (e+1) u o2 ?_ ?_ (sb Z Z Z)))
  ·
    exact⟨by omega,hwr,by rw[<-hI0.2.2,hue,hI1.2,show j=(l.getD i z3).2.2.toNat by omega,z7]⟩
  · omega
 exact Fz 14 3 Z Z Z (Rt Z (leaf (val0:=vL eC out) (by kernel_rfl) (lsl (by have hz:=hI0.2.2;rw[zN (by omega),unrP_nil,zS] at hz;exact hz))))
theorem w64r:∀ (n:Nat) (l:List Cmd) (d:Nat),l.length<=n->Wf d l->(∀ c∈l,jI c=0)->l.length<=64->d<=4->CKa 64 [vL eC l] (vL eC (q9 l))
 | 0,l,d,hn,hw,hc,hl,hd=>w64 l d hw hc hl hd fun b d1 hb=>absurd hb (by omega)
 | n+1,l,d,hn,hw,hc,hl,hd=>w64 l d hw hc hl hd fun b d1 hb hw1 hc1 hd1=>w64r n b d1 (by omega) hw1 hc1 (by omega) hd1
theorem w183b (hp:qH) (hm:HMa) (bb:Nat) (m:Mc) (c:Cmd) (hok:OkN bb m) (hcc:jI c=0):q6 Tryz.prog 183 [.bref 9 0,.pv (gC c)] (qx (xSb bb m)) (vI (ZD bb m c).2) (xOb bb (ZD bb m c).1):=by
 refine cL 1001 (xSb bb m) qf183 Z (nB Z) Z Z (kc (E Z (B.seqB (a:=c.1) (b:=[119,97,105,116]) Z Z) (Cp Z Z (fun h1=>?_) (fun h1=>?_))))
 ·refine E Z (B.sub Z Z (by have h1:=hok.2.1;have h2:=hok.2.2.1;have h3:=hok.2.2.2;unfold R64;omega)) (Dr Z (by kernel_rfl) (Cp Z Z (fun h2=>?_) (fun h2=>?_)))
  ·refine Rt Z ?_
   exact Zh (val0:=vI 3) (out0:=[(900,aM m),(9,.box 217 [vS (bsO m.1.1),vI m.1.2.1,vB m.1.2.2.1,vB m.1.2.2.2,vI m.2.1,vI bb,.aref 900 (m.2.2.length)])]) (.inr Z) (by kernel_rfl) (by rw[tb_w3 h1 h2]) (by rw[tb_w3 h1 h2]<;>rfl)
  have hcw:=cnt_wait hcc h1
  refine E Z (B.add Z Z (by have h1:=hok.2.1;have h2:=hok.2.2.1;have h3:=hok.2.2.2;unfold R64;omega)) (Dr Z (by kernel_rfl) ?_)
  refine Rt Z ?_
  exact Zh (val0:=vI 0) (out0:=[(900,aM m),(9,.box 217 [vS (bsO m.1.1),vI m.1.2.1,vB m.1.2.2.1,vB m.1.2.2.2,vI (m.2.1+c.2.2),vI bb,.aref 900 (m.2.2.length)])]) (.inr Z) (by kernel_rfl) (by rw[tb_w0 h1 h2]) (by rw[tb_w0 h1 h2]<;>rfl)
 refine E Z (B.lenA Z Z un86) (E Z (B.add Z Z (by have h1:=hok.2.1;have h2:=hok.2.2.1;have h3:=hok.2.2.2;unfold R64;omega)) (Dr Z (by kernel_rfl) (Cp Z Z (fun h3=>?_) (fun h3=>?_))))
 ·refine Rt Z ?_
  exact Zh (val0:=vI 5) (out0:=[(900,aM m),(9,.box 217 [vS (bsO m.1.1),vI m.1.2.1,vB m.1.2.2.1,vB m.1.2.2.2,vI m.2.1,vI bb,.aref 900 (m.2.2.length)])]) (.inr Z) (by kernel_rfl) (by rw[tb_5 h1 h3]) (by rw[tb_5 h1 h3]<;>rfl)
 refine C Z (w139 hp hm hok.1 c.2.1) Z Z Z (Dr Z (by kernel_rfl) (Cp Z Z (fun h4=>?_) (fun h4=>?_)))
 ·refine Rt Z ?_
  exact Zh (val0:=vI (Zu m.1 c.2.1).2) (out0:=[(900,aM m),(9,.box 217 [vS (bsO m.1.1),vI m.1.2.1,vB m.1.2.2.1,vB m.1.2.2.2,vI m.2.1,vI bb,.aref 900 (m.2.2.length)])]) (.inr Z) (by kernel_rfl) (by rw[tb_e h1 h3 h4]) (by rw[tb_e h1 h3 h4]<;>rfl)
 refine E Z (B.jj (val:=.pv (.slice (List.map eP [(m.2.1,c.2.1)]))) (val0:=.aref 1066 0) (m0:=[(1066,.arr 0 2 164 [[pI (m.2.1,c.2.1).1,pS (bsO (m.2.1,c.2.1).2)]])]) (rd:=[]) (by kernel_rfl) (fun l=>Frz.arr l _ _ _ _ _) Z) (E Z (B.append Z Z Z un86 in164 Z (fun _=>rfl) by164 (by have h1:=hok.2.1;have h2:=hok.2.2.1;have h3:=hok.2.2.2;(simp only[za,zb,zd];omega))) (E Z (B.storeR Z Z Z Z sz86 Z Z) (Dr Z (by kernel_rfl) ?_)))
 refine Rt Z ?_
 exact Zh (val0:=vI 0) (out0:=[(900,.arr ((m.2.2.length)+1) 2 164 (List.map eP (m.2.2++[(m.2.1,c.2.1)]))),(9,.box 217 [vS (bsO (Zu m.1 c.2.1).1.1),vI (Zu m.1 c.2.1).1.2.1,vB (Zu m.1 c.2.1).1.2.2.1,vB (Zu m.1 c.2.1).1.2.2.2,vI m.2.1,vI bb,.aref 900 ((m.2.2.length)+1)])]) (.inr Z) (by kernel_rfl) (by rw[tb_0 h1 h3 h4]) (by rw[tb_0 h1 h3 h4]<;>exact xOb_snoc _ _ _ _ _)
theorem w124b (hp:qH) (hm:HMa) (bb:Nat) (m:Mc) (l:List Cmd) (d:Nat) (hok:OkN bb m) (hw:Wf d l) (hc:∀ c∈l,jI c=0) (hl:l.length<=64) (hd:d<=4)
 (hrec:∀ (b:List Cmd) (d1:Nat) (m:Mc),b.length<l.length->Wf d1 b->(∀ c∈b,jI c=0)->d1<=4->OkN bb m->q6 Tryz.prog 124 [.bref 9 0,vL eC b] (qx (xSb bb m)) (vI (jb bb m (q9 b)).2) (xOb bb (jb bb m (q9 b)).1)):q6 Tryz.prog 124 [.bref 9 0,vL eC l] (qx (xSb bb m)) (vI (jb bb m (q9 l)).2) (xOb bb (jb bb m (q9 l)).1):=by
 refine cL 1001 (xSb bb m) qf124 Z (nB Z) Z Z (kc (l2 (fun (i:Nat) (a:Mc)=>[(0,.bref 9 0),(1,vL eC l),(5,vI i)]) (fun _ a=>[(9,.box 217 [vS (bsO a.1.1),vI a.1.2.1,vB a.1.2.2.1,vB a.1.2.2.2,vI a.2.1,vI bb,.aref 900 (a.2.2.length)]),(900,aM a)]) (fun i a=>i<=l.length/\Wf d (List.drop i l)/\OkN bb a/\jb bb m (q9 l)=jb bb a (q9 (List.drop i l))) (fun i _=>l.length-i) 0 m Z ?_ (sb Z Z Z) ?_))
 · exact⟨zq _,hw,hok,rfl⟩
 intro i a hI0
 refine E Z (B.jh Z un82) (Cp Z Z (fun h1=>?_) (fun h1=>?_))
 ·refine tk 9999 Z ?_
  refine TK.scope (fun _ _ h=>by rcases h.1 with h|h<;>cases h) ?_
  refine kc (E Z (B.idx (z:=z3) (i:=i) Z Z un82 sz116 (fun _=>rfl) Z (by omega)) (E Z (B.sneB (a:=(l.getD i z3).1) (b:=[114,101,112,101,97,116]) Z Z) (Cp Z Z (fun h2=>?_) (fun h2=>?_))))
  ·have hci:=hc _ (getD_mem (z:=z3) (k:=i) (by omega))
   refine E Z (B.idx (z:=z3) (i:=i) Z Z un82 sz116 (fun _=>rfl) Z (by omega)) (E Z (B.kU (l:=xSb bb a) (w183b hp hm bb a (l.getD i z3) hI0.2.2.1 hci) Z Z ⟨rfl,rfl,trivial⟩ rfl rfl) (Cp Z Z (fun h3=>?_) (fun h3=>?_)))
   ·refine Rt Z ?_
    exact Zh (val0:=vI (ZD bb a (l.getD i z3)).2) (out0:=[(900,aM (ZD bb a (l.getD i z3)).1),(9,.box 217 [vS (bsO (ZD bb a (l.getD i z3)).1.1.1),vI (ZD bb a (l.getD i z3)).1.1.2.1,vB (ZD bb a (l.getD i z3)).1.1.2.2.1,vB (ZD bb a (l.getD i z3)).1.1.2.2.2,vI (ZD bb a (l.getD i z3)).1.2.1,vI bb,.aref 900 (List.length (ZD bb a (l.getD i z3)).1.2.2)])]) (.inr Z) (by kernel_rfl) (by rw[rb_bad hI0.2 (by omega) h2 h3]) (by rw[rb_bad hI0.2 (by omega) h2 h3])
   refine E Z (B.add Z Z (by unfold R64;omega)) (pk Z (L2 (i+1) (ZD bb a (l.getD i z3)).1 ?_ ?_ (sb Z Z Z)))
   ·
     exact rb_next hI0.2 hc (by omega) h2 (zi.1 h3)
   · omega
  have hci:=hc _ (getD_mem (z:=z3) (k:=i) (by omega))
  refine tk 9999 Z ?_
  refine TK.label ?_
  refine pc (E Z (B.slDL (i:=i) Z Z un82 sz116 (fun _=>rfl) Z (by omega)) (E Z (B.jh Z un82) (l2 (fun (k:Nat) (q:Int)=>[(0,.bref 9 0),(1,vL eC l),(5,vI i),(7,vI i),(8,vI q),(36,vL eC (List.drop i l)),(37,vI ((List.length (List.drop i l):Nat):Int)),(38,vI k)]) (fun _ _=>[(9,.box 217 [vS (bsO a.1.1),vI a.1.2.1,vB a.1.2.2.1,vB a.1.2.2.2,vI a.2.1,vI bb,.aref 900 (a.2.2.length)]),(900,aM a)]) (fun k q=>MtI l i k q) (fun k _=>l.length-k) 0 0 Z ?_ (sb Z Z Z) ?_)))
  · exact mt_start (by omega)
  intro k q hI1
  have hkl:=mt_drop hI1
  refine Cp Z Z (fun h4=>?_) (fun h4=>?_)
  ·refine E Z (B.idx (z:=z3) (i:=k) Z Z un82 sz116 (fun _=>rfl) Z (by omega)) (E Z (B.seqB (a:=(List.getD (List.drop i l) k z3).1) (b:=[114,101,112,101,97,116]) Z Z) (Cp Z Z (fun h5=>?_) (fun h5=>?_)))
   ·refine E Z (B.add Z Z (by unfold R64;omega)) (Cp Z Z (fun h6=>?_) (fun h6=>?_))
    ·refine E Z (B.add Z Z (by unfold R64;omega)) ?_
     refine tk 20 Z ?_
     refine tn ⟨[(0,.bref 9 0),(1,vL eC l),(5,vI i),(7,vI ((i:Int)+(k:Int)))],[(9,.box 217 [vS (bsO a.1.1),vI a.1.2.1,vB a.1.2.2.1,vB a.1.2.2.2,vI a.2.1,vI bb,.aref 900 (a.2.2.length)]),(900,aM a)]⟩ rfl rfl Z ?_
     have hrp:=zi.1 h2
     obtain⟨d1,e,hde,he,he1,he2,hwb,hwr,hle⟩:=wf_at hI0.2.1 (by omega) hrp
     have hek:e=i+k:=by omega
     rw[show ((i:Int)+(k:Int))=(e:Int) by omega]
     have hue:=wf_at_unr hI0.2.1 (by omega) hrp
     rw[<-he] at hue
     have hcb:∀ c∈List.drop (i+1) (List.take e l),jI c=0:=fun c h=>hc c (zr (zt h))
     have hbl:(List.drop (i+1) (List.take e l)).length<l.length:=by rw[zo,zn];omega
     have hcn:=cnt_rep hci hrp
     refine kc (E Z (B.idx (z:=z3) (i:=i) Z Z un82 sz116 (fun _=>rfl) Z (by omega)) (l2 (fun (j:Nat) (b:Mc)=>[(0,.bref 9 0),(1,vL eC l),(5,vI i),(7,vI e),(63,vI (l.getD i z3).2.2),(64,vI j)]) (fun _ b=>[(9,.box 217 [vS (bsO b.1.1),vI b.1.2.1,vB b.1.2.2.1,vB b.1.2.2.2,vI b.2.1,vI bb,.aref 900 (b.2.2.length)]),(900,aM b)]) (fun j b=>j<=(l.getD i z3).2.2.toNat/\OkN bb b/\jb bb a (tms j (q9 (List.drop (i+1) (List.take e l))))=(b,0)) (fun j _=>(l.getD i z3).2.2.toNat-j) 0 a Z ?_ (sb Z Z Z) ?_))
     · exact⟨zq _,hI0.2.2.1,rfl⟩
     intro j b hI2
     refine Cp Z Z (fun h7=>?_) (fun h7=>?_)
     ·refine E Z (B.add Z Z (by unfold R64;omega)) (E Z (B.slTD (i:=(i+1)) (j:=e) Z Z Z un82 sz116 (fun _=>rfl) (by omega) Z (by omega) (by omega)) (E Z (B.kU (l:=xSb bb b) (hrec (List.drop (i+1) (List.take e l)) d1 b hbl hwb hcb (by omega) hI2.2.1) Z Z ⟨rfl,rfl,trivial⟩ rfl rfl) (Cp Z Z (fun h8=>?_) (fun h8=>?_))))
      ·refine Rt Z ?_
       exact Zh (val0:=vI (jb bb b (q9 (List.drop (i+1) (List.take e l)))).2) (out0:=[(900,aM (jb bb b (q9 (List.drop (i+1) (List.take e l)))).1),(9,.box 217 [vS (bsO (jb bb b (q9 (List.drop (i+1) (List.take e l)))).1.1.1),vI (jb bb b (q9 (List.drop (i+1) (List.take e l)))).1.1.2.1,vB (jb bb b (q9 (List.drop (i+1) (List.take e l)))).1.1.2.2.1,vB (jb bb b (q9 (List.drop (i+1) (List.take e l)))).1.1.2.2.2,vI (jb bb b (q9 (List.drop (i+1) (List.take e l)))).1.2.1,vI bb,.aref 900 (List.length (jb bb b (q9 (List.drop (i+1) (List.take e l)))).1.2.2)])]) (.inr Z) (by kernel_rfl) (by rw[rb_bad2 hI0.2.2.2 hue hI2.2.2 (by omega) (by assumption)]) (by rw[rb_bad2 hI0.2.2.2 hue hI2.2.2 (by omega) (by assumption)])
      refine E Z (B.add Z Z (by unfold R64;omega)) (pk Z (L2 (j+1) (jb bb b (q9 (List.drop (i+1) (List.take e l)))).1 ?_ ?_ (sb Z Z Z)))
      · exact⟨by omega,taks_ok2 hI2.2.1 (unr_chk hwb hcb),tmb_next hI2.2.2 (zi.1 (by assumption))⟩
      · omega
     refine E Z (B.add Z Z (by unfold R64;omega)) (pk Z (L2 (e+1) b ?_ ?_ (sb Z Z Z)))
     ·
       exact⟨by omega,hwr,hI2.2.1,rb_rep hI0.2.2.2 hue hI2.2.2 (by omega)⟩
     · omega
    refine E Z (B.add Z Z (by unfold R64;omega)) (pk Z (L2 (k+1) (q+1) ?_ ?_ (sb Z Z Z)))
    ·
      exact mt_rep hI1 (by omega) (by assumption)
    · omega
   refine E Z (B.seqB (a:=(List.getD (List.drop i l) k z3).1) (b:=[101,110,100]) Z Z) (Cp Z Z (fun h9=>?_) (fun h9=>?_))
   ·refine E Z (B.sub Z Z (by unfold R64;omega)) (Cp Z Z (fun h10=>?_) (fun h10=>?_))
    ·refine E Z (B.add Z Z (by unfold R64;omega)) ?_
     refine tk 20 Z ?_
     refine tn ⟨[(0,.bref 9 0),(1,vL eC l),(5,vI i),(7,vI ((i:Int)+(k:Int)))],[(9,.box 217 [vS (bsO a.1.1),vI a.1.2.1,vB a.1.2.2.1,vB a.1.2.2.2,vI a.2.1,vI bb,.aref 900 (a.2.2.length)]),(900,aM a)]⟩ rfl rfl Z ?_
     have hrp:=zi.1 h2
     obtain⟨d1,e,hde,he,he1,he2,hwb,hwr,hle⟩:=wf_at hI0.2.1 (by omega) hrp
     have hek:e=i+k:=by exact he.trans (mt_found hI1 (by omega) (by assumption) (by omega))
     rw[show ((i:Int)+(k:Int))=(e:Int) by omega]
     have hue:=wf_at_unr hI0.2.1 (by omega) hrp
     rw[<-he] at hue
     have hcb:∀ c∈List.drop (i+1) (List.take e l),jI c=0:=fun c h=>hc c (zr (zt h))
     have hbl:(List.drop (i+1) (List.take e l)).length<l.length:=by rw[zo,zn];omega
     have hcn:=cnt_rep hci hrp
     refine kc (E Z (B.idx (z:=z3) (i:=i) Z Z un82 sz116 (fun _=>rfl) Z (by omega)) (l2 (fun (j:Nat) (b:Mc)=>[(0,.bref 9 0),(1,vL eC l),(5,vI i),(7,vI e),(63,vI (l.getD i z3).2.2),(64,vI j)]) (fun _ b=>[(9,.box 217 [vS (bsO b.1.1),vI b.1.2.1,vB b.1.2.2.1,vB b.1.2.2.2,vI b.2.1,vI bb,.aref 900 (b.2.2.length)]),(900,aM b)]) (fun j b=>j<=(l.getD i z3).2.2.toNat/\OkN bb b/\jb bb a (tms j (q9 (List.drop (i+1) (List.take e l))))=(b,0)) (fun j _=>(l.getD i z3).2.2.toNat-j) 0 a Z ?_ (sb Z Z Z) ?_))
     · exact⟨zq _,hI0.2.2.1,rfl⟩
     intro j b hI2
     refine Cp Z Z (fun h11=>?_) (fun h11=>?_)
     ·refine E Z (B.add Z Z (by unfold R64;omega)) (E Z (B.slTD (i:=(i+1)) (j:=e) Z Z Z un82 sz116 (fun _=>rfl) (by omega) Z (by omega) (by omega)) (E Z (B.kU (l:=xSb bb b) (hrec (List.drop (i+1) (List.take e l)) d1 b hbl hwb hcb (by omega) hI2.2.1) Z Z ⟨rfl,rfl,trivial⟩ rfl rfl) (Cp Z Z (fun h12=>?_) (fun h12=>?_))))
      ·refine Rt Z ?_
       exact Zh (val0:=vI (jb bb b (q9 (List.drop (i+1) (List.take e l)))).2) (out0:=[(900,aM (jb bb b (q9 (List.drop (i+1) (List.take e l)))).1),(9,.box 217 [vS (bsO (jb bb b (q9 (List.drop (i+1) (List.take e l)))).1.1.1),vI (jb bb b (q9 (List.drop (i+1) (List.take e l)))).1.1.2.1,vB (jb bb b (q9 (List.drop (i+1) (List.take e l)))).1.1.2.2.1,vB (jb bb b (q9 (List.drop (i+1) (List.take e l)))).1.1.2.2.2,vI (jb bb b (q9 (List.drop (i+1) (List.take e l)))).1.2.1,vI bb,.aref 900 (List.length (jb bb b (q9 (List.drop (i+1) (List.take e l)))).1.2.2)])]) (.inr Z) (by kernel_rfl) (by rw[rb_bad2 hI0.2.2.2 hue hI2.2.2 (by omega) (by assumption)]) (by rw[rb_bad2 hI0.2.2.2 hue hI2.2.2 (by omega) (by assumption)])
      refine E Z (B.add Z Z (by unfold R64;omega)) (pk Z (L2 (j+1) (jb bb b (q9 (List.drop (i+1) (List.take e l)))).1 ?_ ?_ (sb Z Z Z)))
      · exact⟨by omega,taks_ok2 hI2.2.1 (unr_chk hwb hcb),tmb_next hI2.2.2 (zi.1 (by assumption))⟩
      · omega
     refine E Z (B.add Z Z (by unfold R64;omega)) (pk Z (L2 (e+1) b ?_ ?_ (sb Z Z Z)))
     ·
       exact⟨by omega,hwr,hI2.2.1,rb_rep hI0.2.2.2 hue hI2.2.2 (by omega)⟩
     · omega
    refine E Z (B.add Z Z (by unfold R64;omega)) (pk Z (L2 (k+1) (q-1) ?_ ?_ (sb Z Z Z)))
    ·
      exact mt_end hI1 (by omega) (by assumption) (zi.1 h2) (by assumption)
    · omega
   refine Cp Z Z (fun h13=>?_) (fun h13=>?_)
   ·refine E Z (B.add Z Z (by unfold R64;omega)) ?_
    refine tk 20 Z ?_
    refine tn ⟨[(0,.bref 9 0),(1,vL eC l),(5,vI i),(7,vI ((i:Int)+(k:Int)))],[(9,.box 217 [vS (bsO a.1.1),vI a.1.2.1,vB a.1.2.2.1,vB a.1.2.2.2,vI a.2.1,vI bb,.aref 900 (a.2.2.length)]),(900,aM a)]⟩ rfl rfl Z ?_
    have hrp:=zi.1 h2
    obtain⟨d1,e,hde,he,he1,he2,hwb,hwr,hle⟩:=wf_at hI0.2.1 (by omega) hrp
    have hek:e=i+k:=by exact (mt_no hI1 (by assumption) (by assumption) hrp).elim
    rw[show ((i:Int)+(k:Int))=(e:Int) by omega]
    have hue:=wf_at_unr hI0.2.1 (by omega) hrp
    rw[<-he] at hue
    have hcb:∀ c∈List.drop (i+1) (List.take e l),jI c=0:=fun c h=>hc c (zr (zt h))
    have hbl:(List.drop (i+1) (List.take e l)).length<l.length:=by rw[zo,zn];omega
    have hcn:=cnt_rep hci hrp
    refine kc (E Z (B.idx (z:=z3) (i:=i) Z Z un82 sz116 (fun _=>rfl) Z (by omega)) (l2 (fun (j:Nat) (b:Mc)=>[(0,.bref 9 0),(1,vL eC l),(5,vI i),(7,vI e),(63,vI (l.getD i z3).2.2),(64,vI j)]) (fun _ b=>[(9,.box 217 [vS (bsO b.1.1),vI b.1.2.1,vB b.1.2.2.1,vB b.1.2.2.2,vI b.2.1,vI bb,.aref 900 (b.2.2.length)]),(900,aM b)]) (fun j b=>j<=(l.getD i z3).2.2.toNat/\OkN bb b/\jb bb a (tms j (q9 (List.drop (i+1) (List.take e l))))=(b,0)) (fun j _=>(l.getD i z3).2.2.toNat-j) 0 a Z ?_ (sb Z Z Z) ?_))
    · exact⟨zq _,hI0.2.2.1,rfl⟩
    intro j b hI2
    refine Cp Z Z (fun h14=>?_) (fun h14=>?_)
    ·refine E Z (B.add Z Z (by unfold R64;omega)) (E Z (B.slTD (i:=(i+1)) (j:=e) Z Z Z un82 sz116 (fun _=>rfl) (by omega) Z (by omega) (by omega)) (E Z (B.kU (l:=xSb bb b) (hrec (List.drop (i+1) (List.take e l)) d1 b hbl hwb hcb (by omega) hI2.2.1) Z Z ⟨rfl,rfl,trivial⟩ rfl rfl) (Cp Z Z (fun h15=>?_) (fun h15=>?_))))
     ·refine Rt Z ?_
      exact Zh (val0:=vI (jb bb b (q9 (List.drop (i+1) (List.take e l)))).2) (out0:=[(900,aM (jb bb b (q9 (List.drop (i+1) (List.take e l)))).1),(9,.box 217 [vS (bsO (jb bb b (q9 (List.drop (i+1) (List.take e l)))).1.1.1),vI (jb bb b (q9 (List.drop (i+1) (List.take e l)))).1.1.2.1,vB (jb bb b (q9 (List.drop (i+1) (List.take e l)))).1.1.2.2.1,vB (jb bb b (q9 (List.drop (i+1) (List.take e l)))).1.1.2.2.2,vI (jb bb b (q9 (List.drop (i+1) (List.take e l)))).1.2.1,vI bb,.aref 900 (List.length (jb bb b (q9 (List.drop (i+1) (List.take e l)))).1.2.2)])]) (.inr Z) (by kernel_rfl) (by rw[rb_bad2 hI0.2.2.2 hue hI2.2.2 (by omega) (by assumption)]) (by rw[rb_bad2 hI0.2.2.2 hue hI2.2.2 (by omega) (by assumption)])
     refine E Z (B.add Z Z (by unfold R64;omega)) (pk Z (L2 (j+1) (jb bb b (q9 (List.drop (i+1) (List.take e l)))).1 ?_ ?_ (sb Z Z Z)))
     · exact⟨by omega,taks_ok2 hI2.2.1 (unr_chk hwb hcb),tmb_next hI2.2.2 (zi.1 (by assumption))⟩
     · omega
    refine E Z (B.add Z Z (by unfold R64;omega)) (pk Z (L2 (e+1) b ?_ ?_ (sb Z Z Z)))
    ·
      exact⟨by omega,hwr,hI2.2.1,rb_rep hI0.2.2.2 hue hI2.2.2 (by omega)⟩
    · omega
   refine E Z (B.add Z Z (by unfold R64;omega)) (pk Z (L2 (k+1) q ?_ ?_ (sb Z Z Z)))
   ·
     exact mt_one hI1 (by omega) (by assumption) (by assumption) (zi.1 h2)
   · omega
  exact absurd (mt_stop hI0.2.1 (by omega) (zi.1 h2) hI1) h4
 refine Rt Z ?_
 exact Zh (val0:=vI 0) (out0:=[(900,aM a),(9,.box 217 [vS (bsO a.1.1),vI a.1.2.1,vB a.1.2.2.1,vB a.1.2.2.2,vI a.2.1,vI bb,.aref 900 (a.2.2.length)])]) (.inr Z) (by kernel_rfl) (by rw[rb_end hI0.2.2.2 (by omega)]) (by rw[rb_end hI0.2.2.2 (by omega)])
theorem w124bb (hp:qH) (hm:HMa) (bb:Nat):∀ (n:Nat) (m:Mc) (l:List Cmd) (d:Nat),l.length<=n->OkN bb m->Wf d l->(∀ c∈l,jI c=0)->l.length<=64->d<=4->q6 Tryz.prog 124 [.bref 9 0,vL eC l] (qx (xSb bb m)) (vI (jb bb m (q9 l)).2) (xOb bb (jb bb m (q9 l)).1)
 | 0,m,l,d,hn,hok,hw,hc,hl,hd=>w124b hp hm bb m l d hok hw hc hl hd fun b d1 m1 hb=>absurd hb (by omega)
 | n+1,m,l,d,hn,hok,hw,hc,hl,hd=>w124b hp hm bb m l d hok hw hc hl hd fun b d1 m1 hb hw1 hc1 hd1 hok1=>w124bb hp hm bb n m1 b d1 (by omega) hok1 hw1 hc1 (by omega) hd1
theorem w126b (hp:qH) (hm:HMa) (bb:Nat) (m:Mc) (l:List Cmd) (hok:OkN bb m) (hw:Wf 4 l) (hc:∀ c∈l,jI c=0) (hl:l.length<=64):CKa 126 [.pv (.agg [pS (bsO m.1.1),pI m.1.2.1,pB m.1.2.2.1,pB m.1.2.2.2,pI m.2.1,pL eP m.2.2,pI bb]),vL eC l] (.tup [.pv (.agg [pS (bsO (jb bb m (q9 l)).1.1.1),pI (jb bb m (q9 l)).1.1.2.1,pB (jb bb m (q9 l)).1.1.2.2.1,pB (jb bb m (q9 l)).1.1.2.2.2,pI (jb bb m (q9 l)).1.2.1,pL eP (jb bb m (q9 l)).1.2.2,pI bb]),vI (jb bb m (q9 l)).2]):=by
 refine cG qf126 Z (nB Z) Z ?_
 have hcu:=unr_chk hw hc
 have hul:=(wf_unr_len hw hc).1
 have hsl:=wf_small hw (by omega) hc hl
 refine E Z (B.jj Z (fun l=>Frz.boxN l Z) Z) (C Z (w64r l.length l 4 (zz _) hw hc hl (by omega)) Z Z Z (l2 (fun (i:Nat) (a:Mc)=>[(2,.bref 3 0),(4,.bref 5 0),(6,vL eC (q9 l)),(7,vI i)]) (fun _ a=>[(3,.box 220 [vS (bsO a.1.1),vI a.1.2.1,vB a.1.2.2.1,vB a.1.2.2.2,vI a.2.1,vL eP a.2.2,vI bb]),(5,.box 220 [vS (bsO []),vI 0,vB false,vB false,vI 0,vL eP [],vI 0])]) (fun i a=>i<=List.length (q9 l)/\OkN bb a/\jb bb m (q9 l)=jb bb a (List.drop i (q9 l))) (fun i _=>List.length (q9 l)-i) 0 m Z ?_ (sb Z Z Z) ?_))
 · exact⟨zq _,hok,rfl⟩
 intro i a hI0
 refine E Z (B.jh Z un83) (Cp Z Z (fun h1=>?_) (fun h1=>?_))
 ·have hce:=hcu _ (getD_mem (z:=z3) (k:=i) (show i<(q9 l).length by omega))
  have ho1:=hI0.2.1.2.1
  have ho2:=hI0.2.1.2.2.1
  have ho3:=hI0.2.1.2.2.2
  refine E Z (B.idx (z:=z3) (i:=i) Z Z un83 ZI (fun _=>rfl) Z (by omega)) (E Z (B.seqB (a:=(List.getD (q9 l) i z3).1) (b:=[119,97,105,116]) Z Z) (Cp Z Z (fun h2=>?_) (fun h2=>?_)))
  ·have hcw:=cnt_wait hce h2
   refine E Z (B.idx (z:=z3) (i:=i) Z Z un83 ZI (fun _=>rfl) Z (by omega)) (E Z (B.add Z Z (by unfold R64;omega)) (Dr Z (by kernel_rfl) (Cp Z Z (fun h3=>?_) (fun h3=>?_))))
   ·exact Rt Z (leaf (val0:=.tup [.pv (.agg [pS (bsO a.1.1),pI a.1.2.1,pB a.1.2.2.1,pB a.1.2.2.2,pI a.2.1,pL eP a.2.2,pI bb]),vI 3]) (by kernel_rfl) (tup2 (lag (q5 (pls (by (rw[kj hI0.2.2 (by omega) (xb_w3 h2 (by assumption)) (by simp)]))) (q5 (pli (by (rw[kj hI0.2.2 (by omega) (xb_w3 h2 (by assumption)) (by simp)]))) (q5 (plb (by (rw[kj hI0.2.2 (by omega) (xb_w3 h2 (by assumption)) (by simp)]))) (q5 (plb (by (rw[kj hI0.2.2 (by omega) (xb_w3 h2 (by assumption)) (by simp)]))) (q5 (pli (by (rw[kj hI0.2.2 (by omega) (xb_w3 h2 (by assumption)) (by simp)]))) (q5 (plsl (by (rw[kj hI0.2.2 (by omega) (xb_w3 h2 (by assumption)) (by simp)]))) (q5 (rfl) rfl)))))))) (li (by (rw[kj hI0.2.2 (by omega) (xb_w3 h2 (by assumption)) (by simp)])))))
   refine E Z (B.idx (z:=z3) (i:=i) Z Z un83 ZI (fun _=>rfl) Z (by omega)) (E Z (B.add Z Z (by unfold R64;omega)) (Dr Z (by kernel_rfl) (E Z (B.add Z Z (by unfold R64;omega)) (pk Z (L2 (i+1) (a.1,(a.2.1+(List.getD (q9 l) i z3).2.2),a.2.2) ?_ ?_ (sb Z Z Z))))))
   ·
     exact xb_next hI0.2 (by omega) hce (xb_w0 h2 (by assumption))
   · omega
  refine E Z (B.jh Z un90) (E Z (B.add Z Z (by unfold R64;omega)) (Cp Z Z (fun h4=>?_) (fun h4=>?_)))
  ·exact Rt Z (leaf (val0:=.tup [.pv (.agg [pS (bsO a.1.1),pI a.1.2.1,pB a.1.2.2.1,pB a.1.2.2.2,pI a.2.1,pL eP a.2.2,pI bb]),vI 5]) (by kernel_rfl) (tup2 (lag (q5 (pls (by (rw[kj hI0.2.2 (by omega) (tb_5 h2 (by assumption)) (by simp)]))) (q5 (pli (by (rw[kj hI0.2.2 (by omega) (tb_5 h2 (by assumption)) (by simp)]))) (q5 (plb (by (rw[kj hI0.2.2 (by omega) (tb_5 h2 (by assumption)) (by simp)]))) (q5 (plb (by (rw[kj hI0.2.2 (by omega) (tb_5 h2 (by assumption)) (by simp)]))) (q5 (pli (by (rw[kj hI0.2.2 (by omega) (tb_5 h2 (by assumption)) (by simp)]))) (q5 (plsl (by (rw[kj hI0.2.2 (by omega) (tb_5 h2 (by assumption)) (by simp)]))) (q5 (rfl) rfl)))))))) (li (by (rw[kj hI0.2.2 (by omega) (tb_5 h2 (by assumption)) (by simp)])))))
  refine E Z (B.idx (z:=z3) (i:=i) Z Z un83 ZI (fun _=>rfl) Z (by omega)) (C Z (w184 hp hm hI0.2.1.1 (List.getD (q9 l) i z3).2.1) Z Z Z (Dr Z (by kernel_rfl) (Cp Z Z (fun h5=>?_) (fun h5=>?_))))
  ·exact Rt Z (leaf (val0:=.tup [.pv (.agg [pS (bsO a.1.1),pI a.1.2.1,pB a.1.2.2.1,pB a.1.2.2.2,pI a.2.1,pL eP a.2.2,pI bb]),vI (Zu a.1 (List.getD (q9 l) i z3).2.1).2]) (by kernel_rfl) (tup2 (lag (q5 (pls (by (rw[kj hI0.2.2 (by omega) (tb_e h2 (by assumption) (by assumption)) (by assumption)]))) (q5 (pli (by (rw[kj hI0.2.2 (by omega) (tb_e h2 (by assumption) (by assumption)) (by assumption)]))) (q5 (plb (by (rw[kj hI0.2.2 (by omega) (tb_e h2 (by assumption) (by assumption)) (by assumption)]))) (q5 (plb (by (rw[kj hI0.2.2 (by omega) (tb_e h2 (by assumption) (by assumption)) (by assumption)]))) (q5 (pli (by (rw[kj hI0.2.2 (by omega) (tb_e h2 (by assumption) (by assumption)) (by assumption)]))) (q5 (plsl (by (rw[kj hI0.2.2 (by omega) (tb_e h2 (by assumption) (by assumption)) (by assumption)]))) (q5 (rfl) Z)))))))) (li (by (rw[kj hI0.2.2 (by omega) (tb_e h2 (by assumption) (by assumption)) (by assumption)])))))
  refine E Z (B.run Z) (E Z (B.append (enc:=eP) (l:=[]) (r:=a.2.2) Z Z Z un90 in176 Z (fun _=>rfl) by176 (by (simp only[za,zb,zd];omega))) (E Z (B.idx (z:=z3) (i:=i) Z Z un83 ZI (fun _=>rfl) Z (by omega)) (E Z (B.jj (val:=.pv (.slice (List.map eP [(a.2.1,(List.getD (q9 l) i z3).2.1)]))) Z (fun l=>Frz.arr l _ _ _ _ _) Z) (E Z (B.append Z Z Z un90 in176 Z (fun _=>rfl) by176 (by (simp only[za,zb,zd];omega))) (E Z (B.storeR Z Z Z Z sz90 Z Z) (Dr Z (by kernel_rfl) ?_))))))
  refine tk 4 Z ?_
  refine TK.frzC (h:=3) (h2:=69) Z Z Z ?_
  refine TK.norm ⟨[(2,.bref 3 0),(4,.bref 5 0),(6,vL eC (q9 l)),(7,vI i)],[(3,.box 220 [vS (bsO (Zu a.1 (List.getD (q9 l) i z3).2.1).1.1),vI (Zu a.1 (List.getD (q9 l) i z3).2.1).1.2.1,vB (Zu a.1 (List.getD (q9 l) i z3).2.1).1.2.2.1,vB (Zu a.1 (List.getD (q9 l) i z3).2.1).1.2.2.2,vI a.2.1,vL eP (a.2.2++[(a.2.1,(List.getD (q9 l) i z3).2.1)]),vI bb]),(5,.box 220 [vS (bsO []),vI 0,vB false,vB false,vI 0,vL eP [],vI 0])]⟩ (sb Z Z Z) ?_
  refine kc (E Z (B.add Z Z (by unfold R64;omega)) (pk Z (L2 (i+1) ((Zu a.1 (List.getD (q9 l) i z3).2.1).1,a.2.1,(a.2.2++[(a.2.1,(List.getD (q9 l) i z3).2.1)])) ?_ ?_ (sb Z Z Z))))
  ·
    exact xb_next hI0.2 (by omega) hce (tb_0 h2 (by assumption) (by assumption))
  · omega
 exact Rt Z (leaf (val0:=.tup [.pv (.agg [pS (bsO a.1.1),pI a.1.2.1,pB a.1.2.2.1,pB a.1.2.2.2,pI a.2.1,pL eP a.2.2,pI bb]),vI 0]) (by kernel_rfl) (tup2 (lag (q5 (pls (by (rw[xb_end hI0.2.2 (by omega)]))) (q5 (pli (by (rw[xb_end hI0.2.2 (by omega)]))) (q5 (plb (by (rw[xb_end hI0.2.2 (by omega)]))) (q5 (plb (by (rw[xb_end hI0.2.2 (by omega)]))) (q5 (pli (by (rw[xb_end hI0.2.2 (by omega)]))) (q5 (plsl (by (rw[xb_end hI0.2.2 (by omega)]))) (q5 (rfl) Z)))))))) (li (by (rw[xb_end hI0.2.2 (by omega)])))))
end Go.Lens.Tm
end
section
namespace Go.Lens.Tm
open Go.Lens.Tb Go.Proofs
theorem cEq (b c:UInt8):((b.toNat:Nat):Int)=((c.toNat:Nat):Int)↔b=c:=⟨fun h=>UInt8.toNat_inj.1 (by omega),fun h=>by rw[h]⟩
def splG (c:UInt8):List UInt8->List UInt8->List (List UInt8)
 | acc,[]=>[acc]
 | acc,b::r=>bif decide (((b.toNat:Nat):Int)=((c.toNat:Nat):Int)) then acc::splG c [] r else splG c (acc++[b]) r
def ZO (c:UInt8) (s:List UInt8):List (List UInt8):=splG c [] s
theorem splG_32:∀ (s acc:List UInt8),splG 32 acc s=Zt acc s
 | [],acc=>rfl
 | b::r,acc=>by
  have h1:=splG_32 r []
  have h2:=splG_32 r (acc++[b])
  show (bif decide (((b.toNat:Nat):Int)=32) then acc::splG 32 [] r else splG 32 (acc++[b]) r)=_
  rw[h1,h2];rfl
theorem splC_32 (s:List UInt8):ZO 32 s=jZ s:=splG_32 s []
theorem splG_len (c:UInt8):∀ (s acc:List UInt8),(splG c acc s).length<=s.length+1
 | [],acc=>zz _
 | b::r,acc=>by
  simp only[splG]
  cases decide (((b.toNat:Nat):Int)=((c.toNat:Nat):Int))
  ·have:=splG_len c r (acc++[b]);simp only[cond_false,zb];omega
  have:=splG_len c r [];simp only[cond_true,zb];omega
theorem splC_len (c:UInt8) (s:List UInt8):(ZO c s).length<=s.length+1:=splG_len c s []
theorem splG_mem (c:UInt8):∀ (s acc:List UInt8),∀ w∈splG c acc s,w.length<=acc.length+s.length
 | [],acc,w,h=>by
  have:w=acc:=by simpa [splG] using h
  rw[this];simp
 | b::r,acc,w,h=>by
  simp only[splG] at h
  revert h
  cases decide (((b.toNat:Nat):Int)=((c.toNat:Nat):Int))
  ·intro h;have:=splG_mem c r (acc++[b]) w (by simpa using h);simp only[za,zb,zd] at this ⊢;omega
  intro h
  rcases zF.1 (by simpa using h) with rfl|h
  ·omega
  have:=splG_mem c r [] w h;simp only[zb,zd] at this ⊢;omega
theorem splC_mem {c:UInt8} {s w:List UInt8} (h:w∈ZO c s):w.length<=s.length:=by
 have:=splG_mem c s [] w h;simpa using this
theorem spc_no {c:UInt8} {s:List UInt8} {i f:Nat} (hf:f<=i) (hi:i<s.length) (h:¬((s.getD i 0).toNat:Int)=((c.toNat:Nat):Int)):splG c ((s.take i).drop f) (s.drop i)=splG c ((s.take (i+1)).drop f) (s.drop (i+1)):=by
 rw[drop_at s i 0 hi,splG,zk h,cond_false,mid_snoc hf hi]
theorem spc_yes {c:UInt8} {s:List UInt8} {i f:Nat} (hi:i<s.length) (h:((s.getD i 0).toNat:Int)=((c.toNat:Nat):Int)):splG c ((s.take i).drop f) (s.drop i)=(s.take i).drop f::splG c ((s.take (i+1)).drop (i+1)) (s.drop (i+1)):=by
 rw[drop_at s i 0 hi,splG,zl h,cond_true]
 congr 2
 rw[zX (by rw[zn];omega)]
theorem spc_end {c:UInt8} {s:List UInt8} {i f:Nat} (hi:i=s.length):splG c ((s.take i).drop f) (s.drop i)=[(s.take i).drop f]:=by
 have e:s.drop i=[]:=zX (by omega)
 rw[e];rfl
def SpcI (c:UInt8) (s:List UInt8) (i f:Nat) (out:List (List UInt8)):Prop:=f<=i/\out.length<=i/\((i<=s.length/\ZO c s=out++splG c ((s.take i).drop f) (s.drop i))\/(i=s.length+1/\ZO c s=out))
theorem spcI0 {c:UInt8} (s:List UInt8):SpcI c s 0 0 []:=⟨zz _,zq _,.inl ⟨zq _,rfl⟩⟩
theorem spc_at {c:UInt8} {s:List UInt8} {i f:Nat} {out:List (List UInt8)} (h:SpcI c s i f out) (hi:((i:Nat):Int)<=((s.length:Nat):Int)):f<=i/\out.length<=i/\i<=s.length/\ZO c s=out++splG c ((s.take i).drop f) (s.drop i):=by
 obtain⟨h1,h2,⟨h3,h4⟩|⟨h3,_⟩⟩:=h
 ·exact⟨h1,h2,h3,h4⟩
 omega
theorem spc_out {c:UInt8} {s:List UInt8} {i f:Nat} {out:List (List UInt8)} (h:SpcI c s i f out) (hi:¬((i:Nat):Int)<=((s.length:Nat):Int)):out=ZO c s:=by
 obtain⟨_,_,⟨h3,_⟩|⟨_,h4⟩⟩:=h
 ·omega
 exact h4.symm
theorem spc_c {c:UInt8} {s:List UInt8} {i:Nat} (hi:i<=s.length) {b:Bool} (h:(bif decide (((i:Nat):Int)=((s.length:Nat):Int)) then true else decide ((byteAt (bsO s) i)=((c.toNat:Nat):Int)))=b) :
 (b=true->i=s.length\/(i<s.length/\((s.getD i 0).toNat:Int)=((c.toNat:Nat):Int)))/\(b=false->i<s.length/\¬((s.getD i 0).toNat:Int)=((c.toNat:Nat):Int)):=by
 have e:byteAt (bsO s) i=((s.getD i 0).toNat:Int):=rfl
 rw[e,jA] at h
 constructor
 ·rintro rfl
  simp only[Bool.or_eq_true,zf] at h
  rcases h with h|h
  ·exact .inl (by omega)
  by_cases hq:i=s.length
  ·exact .inl hq
  exact .inr ⟨by omega,h⟩
 rintro rfl
 simp only[qc,zH] at h
 exact⟨by omega,h.2⟩
theorem spc_stepY {c:UInt8} {s:List UInt8} {i f:Nat} {out:List (List UInt8)} (h:SpcI c s i f out) (hi:((i:Nat):Int)<=((s.length:Nat):Int)) (h3:(bif decide (((i:Nat):Int)=((s.length:Nat):Int)) then true else decide ((byteAt (bsO s) i)=((c.toNat:Nat):Int)))=true):SpcI c s (i+1) (i+1) (out++[(s.take i).drop f]):=by
 obtain⟨h1,h2,h4,h5⟩:=spc_at h hi
 refine⟨zz _,by simp only[za,zb,zd];omega,?_⟩
 rcases (spc_c h4 h3).1 rfl with hq|⟨hq,hc⟩
 ·right;rw[spc_end hq] at h5;exact⟨by omega,h5⟩
 left;rw[spc_yes hq hc] at h5
 exact⟨by omega,by rw[h5,z7];rfl⟩
theorem spc_stepN {c:UInt8} {s:List UInt8} {i f:Nat} {out:List (List UInt8)} (h:SpcI c s i f out) (hi:((i:Nat):Int)<=((s.length:Nat):Int)) (h3:(bif decide (((i:Nat):Int)=((s.length:Nat):Int)) then true else decide ((byteAt (bsO s) i)=((c.toNat:Nat):Int)))=false):SpcI c s (i+1) f out:=by
 obtain⟨h1,h2,h4,h5⟩:=spc_at h hi
 obtain⟨hq,hc⟩:=(spc_c h4 h3).2 rfl
 exact⟨by omega,by omega,.inl ⟨by omega,by rw[h5,spc_no h1 hq hc]⟩⟩
theorem splG_none {c:UInt8}:∀ (s acc:List UInt8),c∉s->splG c acc s=[acc++s]
 | [],acc,_=>by simp[splG]
 | b::r,acc,h=>by
  simp only[zF,not_or] at h
  simp only[splG]
  rw[zk (p:=((b.toNat:Nat):Int)=((c.toNat:Nat):Int)) (fun e=>h.1 ((cEq b c).1 e).symm),cond_false,splG_none r _ h.2];simp
theorem splG_at {c:UInt8}:∀ (s acc:List UInt8) (n:Nat),n<s.length->s.getD n 0=c->(∀ j,j<n->s.getD j 0≠c)->splG c acc s=(acc++s.take n)::splG c [] (s.drop (n+1))/\List.count c s=List.count c (s.drop (n+1))+1
 | [],_,n,h,_,_=>by simp at h
 | b::r,acc,0,_,h,_=>by
  have hb:b=c:=h
  simp only[splG]
  rw[zl (p:=((b.toNat:Nat):Int)=((c.toNat:Nat):Int)) ((cEq b c).2 hb),cond_true]
  exact⟨by simp,by rw[hb];simp⟩
 | b::r,acc,n+1,h1,h2,h3=>by
  have hb:b≠c:=h3 0 (by omega)
  obtain⟨k1,k2⟩:=splG_at r (acc++[b]) n (by simpa using h1) (by simpa using h2) fun j hj=>by simpa using h3 (j+1) (by omega)
  simp only[splG]
  rw[zk (p:=((b.toNat:Nat):Int)=((c.toNat:Nat):Int)) (fun e=>hb ((cEq b c).1 e)),cond_false,k1]
  exact⟨by simp,by rw[List.count_cons_of_ne hb];simpa using k2⟩
def GsC (c:UInt8) (s:List UInt8) (n2 i:Nat) (a:List (List UInt8)) (q:List UInt8):Prop:=a.length=n2/\q.length<=s.length/\i+List.count c q+1=n2/\ZO c s=a.take i++ZO c q
theorem gsc_step {c:UInt8} {s q:List UInt8} {n2 i m:Nat} {a:List (List UInt8)} (h:GsC c s n2 i a q) (e:Lib.indexByte q c=(m:Int)) (hm:m<q.length) (h2:q.getD m 0=c) (h3:∀ j,j<m->q.getD j 0≠c):GsC c s n2 (i+1) (a.set i (q.take m)) (q.drop (m+1)):=by
 obtain⟨k1,k2,k3,k4⟩:=h
 obtain⟨g1,g2⟩:=splG_at q [] m hm h2 h3
 refine⟨by rw[List.length_set];exact k1,by rw[zo];omega,by omega,?_⟩
 have hi:i<a.length:=by omega
 rw[k4]
 unfold ZO
 rw[g1,List.take_add_one,List.getElem?_set_self hi,List.take_set_of_le (zz _)]
 simp
theorem gsc_end {c:UInt8} {s q:List UInt8} {n2 i:Nat} {a:List (List UInt8)} (h:GsC c s n2 i a q) (hq:c∉q):(a.set i q).take (i+1)=ZO c s:=by
 obtain⟨k1,k2,k3,k4⟩:=h
 have hi:i<a.length:=by omega
 rw[k4]
 unfold ZO
 rw[splG_none q [] hq,List.take_add_one,List.getElem?_set_self hi,List.take_set_of_le (zz _)]
 rfl
theorem gsc_no {c:UInt8} {s q:List UInt8} {n2 i:Nat} {a:List (List UInt8)} (h:GsC c s n2 i a q) (hc:¬((i:Nat):Int)<((n2:Nat):Int)-1):c∉q:=by
 obtain⟨_,_,k3,_⟩:=h
 exact List.count_eq_zero.1 (by omega)
def fullW (l:List (List UInt8)):List (List UInt8):=l.filter fun w=>decide (w≠[])
def qK (s:List UInt8):List (List UInt8):=fullW (jZ s)
theorem fullW_take {l:List (List UInt8)} {k:Nat} (h:k<l.length):fullW (l.take (k+1))=if l.getD k []≠[] then fullW (l.take k)++[l.getD k []] else fullW (l.take k):=by
 unfold fullW
 rw[List.take_add_one,zm h,ze,zm h,zP,List.filter_append]
 by_cases h0:l[k]=[]
 ·simp[h0]
 simp[h0]
theorem wordsP_mem {s w:List UInt8} (h:w∈qK s):w.length<=s.length:=by
 have h1:w∈jZ s:=(List.mem_filter.1 h).1
 rw[<-splC_32] at h1
 exact splC_mem h1
def intG:Int->List UInt8->Option Int
 | n,[]=>some n
 | n,b::r=>if (bif decide (((b.toNat:Nat):Int)<48) then true else decide (57<((b.toNat:Nat):Int)))=true then none else intG (10*n+(((b.toNat:Nat):Int)-48)) r
def noI (s:List UInt8):Bool:=(bif (bif (decide (((s.length:Nat):Int)=0)) then true else (decide (9<((s.length:Nat):Int)))) then true else (bif (decide (1<((s.length:Nat):Int))) then (decide ((byteAt (bsO s) 0)=48)) else false))
def intR (s:List UInt8):Option Int:=if noI s=true then none else intG 0 s
theorem noI_len {s:List UInt8} (h:noI s=false):1<=s.length/\s.length<=9/\(1<s.length->¬byteAt (bsO s) 0=48):=by
 unfold noI at h
 simp only[jA,jw,qc,zH,Bool.and_eq_false_iff] at h
 refine⟨by omega,by omega,fun h1=>?_⟩
 rcases h.2 with h2|h2
 ·omega
 exact h2
theorem intR_no {s:List UInt8} (h:noI s=true):intR s=none:=if_pos h
theorem intR_go {s:List UInt8} (h:noI s=false):intR s=intG 0 s:=by unfold intR;rw[if_neg (by rw[h];decide)]
theorem intG_step {s:List UInt8} {k:Nat} {n:Int} (hk:k<s.length) (h:(bif (decide ((byteAt (bsO s) k)<48)) then true else (decide (57<(byteAt (bsO s) k))))=false):intG n (s.drop k)=intG (10*n+((byteAt (bsO s) k)-48)) (s.drop (k+1)):=by
 rw[drop_at s k 0 hk,intG]
 have h':(bif decide ((((s.getD k 0).toNat:Nat):Int)<48) then true else decide (57<(((s.getD k 0).toNat:Nat):Int)))=false:=h
 rw[h',if_neg (by decide)];rfl
theorem intG_bad {s:List UInt8} {k:Nat} {n:Int} (hk:k<s.length) (h:(bif (decide ((byteAt (bsO s) k)<48)) then true else (decide (57<(byteAt (bsO s) k))))=true):intG n (s.drop k)=none:=by
 rw[drop_at s k 0 hk,intG]
 have h':(bif decide ((((s.getD k 0).toNat:Nat):Int)<48) then true else decide (57<(((s.getD k 0).toNat:Nat):Int)))=true:=h
 rw[h',if_pos rfl]
theorem dig_rng {a:Int} (h:(bif (decide (a<48)) then true else (decide (57<a)))=false):48<=a/\a<=57:=by
 simp only[jA,qc,zH] at h
 omega
theorem pow_bd {k:Nat} (h:k<=9):(10:Int) ^ k<=1000000000:=by
 have:(10:Nat) ^ k<=10 ^ 9:=Nat.pow_le_pow_right (by decide) h
 have e:((10:Int) ^ k)=(((10:Nat) ^ k:Nat):Int):=by norm_cast
 rw[e];omega
theorem pow_s (k:Nat):(10:Int) ^ (k+1)=10*10 ^ k:=by rw[Int.pow_succ];omega
def intV (s:List UInt8):Int×Bool:=match Lib.atoiAll s with
 | .ok v=>(v,decide (0<=v/\v<=999999999/\Lib.itoa v=s))
 | .range=>(Lib.atoiSat s,false)
 | _=>(0,false)
theorem dd_small {u:Nat} (h:u<10):Lib.decDigits u=[UInt8.ofNat (48+u)]:=by rw[Lib.decDigits,dif_pos h]
theorem dd_big {u:Nat} (h:¬u<10):Lib.decDigits u=Lib.decDigits (u / 10)++[UInt8.ofNat (48+u%10)]:=by rw[Lib.decDigits,dif_neg h]
theorem itoa_nat (n:Nat):Lib.itoa (n:Int)=Lib.decDigits n:=by
 unfold Lib.itoa;rw[if_neg (by omega),zU]
theorem byte_ok {b:UInt8} (h:48<=b.toNat/\b.toNat<=57):(bif decide (((b.toNat:Nat):Int)<48) then true else decide (57<((b.toNat:Nat):Int)))=false:=by
 rw[zk (by omega),zk (by omega)];rfl
theorem byte_no {b:UInt8} (h:¬(48<=b.toNat/\b.toNat<=57)):(bif decide (((b.toNat:Nat):Int)<48) then true else decide (57<((b.toNat:Nat):Int)))=true:=by
 rw[jA];simp only[Bool.or_eq_true,zf];omega
theorem Z2 {b:UInt8} {r:List UInt8} {n:Int} (h:48<=b.toNat/\b.toNat<=57):intG n (b::r)=intG (10*n+(((b.toNat:Nat):Int)-48)) r:=by
 rw[intG,byte_ok h,if_neg (by decide)]
theorem intG_none {b:UInt8} {r:List UInt8} {n:Int} (h:¬(48<=b.toNat/\b.toNat<=57)):intG n (b::r)=none:=by
 rw[intG,byte_no h,if_pos rfl]
theorem intG_app:∀ (l r:List UInt8) (n:Int),intG n (l++r)=(intG n l).bind fun m=>intG m r
 | [],r,n=>rfl
 | b::l,r,n=>by
  by_cases h:48<=b.toNat/\b.toNat<=57
  ·rw[zQ,Z2 h,Z2 h,intG_app l r]
  rw[zQ,intG_none h,intG_none h];rfl
theorem dg_nat {k:Nat} (h:k<10):(UInt8.ofNat (48+k)).toNat=48+k:=by
 rw[UInt8.toNat_ofNat'];omega
theorem intG_dec (n:Nat):intG 0 (Lib.decDigits n)=some (n:Int):=by
 induction n using Nat.strongRecOn with
 | _ n ih=>
  by_cases h:n<10
  ·rw[dd_small h,Z2 (by rw[dg_nat h];omega),dg_nat h]
   simp only[intG];congr 1;omega
  rw[dd_big h,intG_app,ih (n / 10) (by omega)]
  show intG ((n / 10:Nat):Int) [UInt8.ofNat (48+n%10)]=_
  rw[Z2 (by rw[dg_nat (by omega)];omega),dg_nat (by omega)]
  simp only[intG];congr 1;omega
theorem nd_le:∀ (k n:Nat),n<10 ^ (k+1)->Lib.nDigits n<=k+1
 | 0,n,h=>by rw[Lib.nDigits_small (by simpa using h)];exact zz _
 | k+1,n,h=>by
  by_cases h1:n<10
  ·rw[Lib.nDigits_small h1];omega
  rw[Lib.nDigits_big h1]
  rw[Nat.pow_succ] at h
  have:=nd_le k (n / 10) (by omega)
  omega
theorem dd_len {n:Nat} (h:n<=999999999):(Lib.decDigits n).length<=9:=by
 rw[Lib.decDigits_length]
 exact nd_le 8 n (by omega)
theorem dd_pos (n:Nat):1<=(Lib.decDigits n).length:=by
 rw[Lib.decDigits_length]
 exact Lib.nDigits_pos n
theorem dd_head (n:Nat) (h:1<=n):((Lib.decDigits n).getD 0 0).toNat≠48:=by
 induction n using Nat.strongRecOn with
 | _ n ih=>
  by_cases h1:n<10
  ·rw[dd_small h1]
   show (UInt8.ofNat (48+n)).toNat≠48
   rw[dg_nat h1];omega
  rw[dd_big h1,ze,qa (dd_pos _),<-ze]
  exact ih (n / 10) (by omega) (by omega)
theorem noI_dec {n:Nat} (h:n<=999999999):noI (Lib.decDigits n)=false:=by
 have h1:=dd_len h
 have h2:=dd_pos n
 unfold noI
 rw[zk (p:=((List.length (Lib.decDigits n):Nat):Int)=0) (by omega),zk (p:=9<((List.length (Lib.decDigits n):Nat):Int)) (by omega)]
 show (bif (decide (1<((List.length (Lib.decDigits n):Nat):Int))) then (decide ((byteAt (bsO (Lib.decDigits n)) 0)=48)) else false)=false
 rw[jw]
 by_cases h10:n<10
 ·rw[zk (p:=1<((List.length (Lib.decDigits n):Nat):Int)) (by rw[dd_small h10];simp)];rfl
 have:=dd_head n (by omega)
 rw[zk (p:=(byteAt (bsO (Lib.decDigits n)) 0)=48) (by
  show ¬((((Lib.decDigits n).getD 0 0).toNat:Nat):Int)=48
  omega)]
 simp
theorem intR_dec {n:Nat} (h:n<=999999999):intR (Lib.decDigits n)=some (n:Int):=by
 rw[intR_go (noI_dec h),intG_dec]
theorem dec_of:∀ (s:List UInt8) (a:Nat) (m:Int),1<=a->intG (a:Int) s=some m->∃ q:Nat,m=(q:Int)/\Lib.decDigits q=Lib.decDigits a++s
 | [],a,m,_,h=>by
  simp only[intG,zh] at h
  exact⟨a,h.symm,by simp⟩
 | b::r,a,m,ha,h=>by
  by_cases hb:48<=b.toNat/\b.toNat<=57
  ·rw[Z2 hb,show (10*(a:Int)+(((b.toNat:Nat):Int)-48))=((10*a+(b.toNat-48):Nat):Int) by omega] at h
   obtain⟨q,h1,h2⟩:=dec_of r (10*a+(b.toNat-48)) m (by omega) h
   refine⟨q,h1,?_⟩
   rw[h2,dd_big (u:=10*a+(b.toNat-48)) (by omega),show (10*a+(b.toNat-48)) / 10=a by omega,show 48+(10*a+(b.toNat-48))%10=b.toNat by omega]
   simp
  rw[intG_none hb] at h;cases h
theorem decFrom_of:∀ (s:List UInt8) (a:Nat),Lib.decFrom a s=(intG (a:Int) s).map Int.toNat
 | [],a=>by simp[Lib.decFrom,intG]
 | b::l,a=>by
  by_cases hb:48<=b.toNat/\b.toNat<=57
  ·rw[Z2 hb,show (10*(a:Int)+(((b.toNat:Nat):Int)-48))=((a*10+(b.toNat-48):Nat):Int) by omega,<-decFrom_of l]
   simp only[Lib.decFrom,Lib.digitVal,if_pos hb]
  rw[intG_none hb]
  simp only[Lib.decFrom,Lib.digitVal,if_neg hb];rfl
theorem intR_some {s:List UInt8} {m:Int} (h:intR s=some m):∃ q:Nat,m=(q:Int)/\q<=999999999/\Lib.decDigits q=s/\Lib.atoiAll s=.ok m:=by
 have hn:noI s=false:=by
  cases hq:noI s with
  | true=>rw[intR_no hq] at h;cases h
  | false=>rfl
 rw[intR_go hn] at h
 obtain⟨l1,l9,lz⟩:=noI_len hn
 match s,h,l1,l9,lz with
 | b::r,h,l1,l9,lz=>
 by_cases hb:48<=b.toNat/\b.toNat<=57
 ·have h':=h
  rw[Z2 hb,show (10*(0:Int)+(((b.toNat:Nat):Int)-48))=((b.toNat-48:Nat):Int) by omega] at h
  have hq:∃ q:Nat,m=(q:Int)/\Lib.decDigits q=b::r:=by
   by_cases h0:b.toNat=48
   ·cases r with
    | nil=>
     simp only[intG,zh] at h
     refine⟨0,by omega,?_⟩
     rw[dd_small (by omega)]
     have:b=48:=UInt8.toNat_inj.1 h0
     rw[this];rfl
    | cons b2 r2=>
     exact absurd (show byteAt (bsO (b::b2::r2)) 0=48 by
      show ((b.toNat:Nat):Int)=48
      omega) (lz (by simp))
   obtain⟨q,h1,h2⟩:=dec_of r (b.toNat-48) m (by omega) h
   refine⟨q,h1,?_⟩
   rw[h2,dd_small (by omega),show 48+(b.toNat-48)=b.toNat by omega]
   simp
  obtain⟨q,rfl,hd⟩:=hq
  have hf:Lib.decFrom 0 (b::r)=some q:=by
   rw[decFrom_of]
   show (intG 0 (b::r)).map Int.toNat=_
   rw[h'];rfl
  have hlt:=Lib.decFrom_lt _ _ _ hf
  have hp:(10:Nat) ^ (b::r).length<=10 ^ 9:=Nat.pow_le_pow_right (by decide) l9
  refine⟨q,rfl,by omega,hd,?_⟩
  rw[Lib.atoiAll_short _ (by omega)]
  have hbe:(b==45)=false/\(b==43)=false:=by
   constructor<;>(rw[beq_eq_false_iff_ne];rintro rfl;revert hb;decide)
  simp only[Lib.atoi,hbe.1,hbe.2,Lib.decNat,List.isEmpty_cons,hf]
  rfl
 rw[intG_none hb] at h;cases h
theorem int_same (s:List UInt8):(intV s).2=(intR s).isSome/\((intR s).isSome=true->(intV s).1=(intR s).getD 0):=by
 cases h:intR s with
 | some m=>
  obtain⟨q,rfl,hq,hd,ha⟩:=intR_some h
  simp only[intV,ha]
  exact⟨by
   rw[zl (p:=0<=(q:Int)/\(q:Int)<=999999999/\Lib.itoa (q:Int)=s) ⟨by omega,by omega,by rw[itoa_nat,hd]⟩];rfl,fun _=>rfl⟩
 | none=>
  refine⟨?_,fun h=>by cases h⟩
  show (intV s).2=false
  unfold intV
  split
  ·rename_i v hv
   refine zk ?_
   rintro⟨h0,h1,h2⟩
   obtain⟨n,rfl⟩:∃ n:Nat,v=(n:Int):=⟨v.toNat,by omega⟩
   rw[itoa_nat] at h2
   rw[<-h2,intR_dec (by omega)] at h
   cases h
  ·rfl
  rfl
def joinC:List (List UInt8)->List UInt8
 | []=>[]
 | w::r=>w++r.flatMap fun x=>59::32::x
theorem joinC_snoc (l:List (List UInt8)) (w:List UInt8):joinC (l++[w])=(if 0<l.length then joinC l++[59,32] else joinC l)++w:=by
 cases l with
 | nil=>simp[joinC]
 | cons a l=>simp[joinC]
theorem joinC_len (N:Nat):∀ (ws:List (List UInt8)),(∀ w∈ws,w.length<=N)->(joinC ws).length<=ws.length*(N+2)
 | [],_=>by simp[joinC]
 | w::r,h=>by
  have key:∀ r:List (List UInt8),(∀ w∈r,w.length<=N)->(r.flatMap fun x=>59::32::x).length<=r.length*(N+2):=by
   intro r
   induction r with
   | nil=>intro _;simp
   | cons a r ih=>
    intro hr
    have h1:=ih fun w hw=>hr w (by simp[hw])
    have h2:=hr a (by simp)
    simp only[List.flatMap_cons,za,zb,Nat.add_mul,Nat.one_mul]
    omega
  have h1:=key r fun w hw=>h w (by simp[hw])
  have h2:=h w (by simp)
  simp only[joinC,za,zb,Nat.add_mul,Nat.one_mul]
  omega
def jl [Lz]:Prop:=∀ ws:List (List UInt8),ws.length<=1000->(∀ w∈ws,w.length<=1000)->CKa 169 [vL eN ws,vS (bsO [59,32])] (vS (bsO (joinC ws)))
def prtW (c:Cmd):List UInt8:=if c.1=jV then [97,99,116,32]++c.2.1 else if c.1=kEnd then kEnd else (c.1++[32])++Lib.itoa c.2.2
def sA (s:List UInt8) (k:Nat):List UInt8:=if 0<k then s++[59,32] else s
def sB (c:Cmd) (q:List UInt8):List UInt8:=if c.2.1=[] then q else (q++[32])++c.2.1
def sC (c:Cmd) (q:List UInt8):List UInt8:=if c.2.2=0 then q else (q++[32])++Lib.itoa c.2.2
theorem itoa_len {n:Int} (h0:0<=n) (h1:n<=999999999):(Lib.itoa n).length<=9:=by
 obtain⟨k,rfl⟩:∃ k:Nat,n=(k:Int):=⟨n.toNat,by omega⟩
 rw[itoa_nat];exact dd_len (by omega)
theorem sA_len (s:List UInt8) (k:Nat):(sA s k).length<=s.length+2:=by
 unfold sA;split<;>simp
theorem sB_len (c:Cmd) (q:List UInt8):(sB c q).length<=q.length+1+c.2.1.length:=by
 unfold sB;split
 ·omega
 simp only[za,zb,zd];omega
theorem name24 {w:List UInt8} (h:qV (bsO w)=true):1<=w.length/\w.length<=24:=by
 unfold qV at h
 simp only[zj,zf] at h
 exact h.1
theorem cmd_cases {c:Cmd} (h:jI c=0):(c.1=jV/\qV (bsO c.2.1)=true/\c.2.2=0)\/(c.1=kEnd/\c.2.1=[]/\c.2.2=0)\/((c.1=Z7\/c.1=ZA)/\c.2.1=[]/\1<=c.2.2/\c.2.2<=100000):=by
 have hw:∀ {b:Bool},qF b 1=0->b=false:=by intro b;cases b<;>decide
 have hw8:∀ {b:Bool},qF b 8=0->b=false:=by intro b;cases b<;>decide
 have h':=h
 unfold jI at h
 rcases ops_of h' with h1|h1|h1|h1
 ·rw[if_pos h1] at h
  obtain⟨k1,k2⟩:=first2 h
  have:=with_rng k2
  exact .inl ⟨h1,by have:=hw8 k1;simpa using this,by omega⟩
 ·rw[if_neg (by rw[h1];decide),if_pos h1] at h
  obtain⟨k1,k2⟩:=first2 h
  have:=with_rng k2
  exact .inr (.inl ⟨h1,by have:=hw k1;simpa using this,by omega⟩)
 ·rw[if_neg (by rw[h1];decide),if_neg (by rw[h1];decide),if_pos h1] at h
  obtain⟨k1,k2⟩:=first2 h
  have:=with_rng k2
  exact .inr (.inr ⟨.inl h1,by have:=hw k1;simpa using this,by omega,by omega⟩)
 rw[if_neg (by rw[h1];decide),if_neg (by rw[h1];decide),if_neg (by rw[h1];decide),if_pos h1] at h
 obtain⟨k1,k2⟩:=first2 h
 have:=with_rng k2
 exact .inr (.inr ⟨.inr h1,by have:=hw k1;simpa using this,by omega,by omega⟩)
theorem cmd_sz {c:Cmd} (h:jI c=0):c.1.length<=6/\c.2.1.length<=24/\0<=c.2.2/\c.2.2<=100000:=by
 rcases cmd_cases h with ⟨h1,h2,h3⟩|⟨h1,h2,h3⟩|⟨h1|h1,h2,h3,h4⟩
 ·rw[h1,h3];exact⟨by decide,(name24 h2).2,by omega,by omega⟩
 ·rw[h1,h2,h3];exact⟨by decide,by decide,by omega,by omega⟩
 ·rw[h1,h2];exact⟨by decide,by decide,by omega,h4⟩
 rw[h1,h2];exact⟨by decide,by decide,by omega,h4⟩
theorem src_cmd {c:Cmd} (h:jI c=0) (q:List UInt8):sC c (sB c (q++c.1))=q++prtW c:=by
 rcases cmd_cases h with ⟨h1,h2,h3⟩|⟨h1,h2,h3⟩|⟨h1,h2,h3,h4⟩
 ·have hn:c.2.1≠[]:=by
   intro e
   have:=(name24 h2).1
   rw[e] at this;cases this
  unfold sC sB prtW
  rw[if_pos h3,if_neg hn,if_pos h1,h1]
  simp[jV]
 ·unfold sC sB prtW
  rw[if_pos h3,if_pos h2,if_neg (by rw[h1];decide),if_pos h1,h1]
 have hk:c.1≠jV/\c.1≠kEnd:=by rcases h1 with h1|h1<;>rw[h1]<;>decide
 unfold sC sB prtW
 rw[if_neg (by omega),if_pos h2,if_neg hk.1,if_neg hk.2]
 simp
theorem prtW_len {c:Cmd} (h:jI c=0):(prtW c).length<=40:=by
 have hz:=cmd_sz h
 have hi:=itoa_len (n:=c.2.2) (by omega) (by omega)
 unfold prtW
 split
 ·simp only[za,zb,zd];omega
 split
 ·decide
 simp only[za,zb,zd];omega
def prtS (l:List Cmd):List UInt8:=joinC (l.map prtW)
theorem prtS_len {l:List Cmd} (h:∀ c∈l,jI c=0):(prtS l).length<=l.length*42:=by
 have:=joinC_len 40 (l.map prtW) (fun w hw=>by
  obtain⟨c,hc,rfl⟩:=zE.1 hw
  exact prtW_len (h c hc))
 rwa [zJ] at this
theorem prtW_mem {l:List Cmd} (h:∀ c∈l,jI c=0):∀ w∈l.map prtW,w.length<=1000:=by
 intro w hw
 obtain⟨c,hc,rfl⟩:=zE.1 hw
 have:=prtW_len (h c hc);omega
theorem take_cmd2 (l:List Cmd) (k:Nat) (h:k<l.length):l.take (k+1)=l.take k++[l.getD k z3]:=by
 rw[List.take_add_one,zm h,ze,zm h];rfl
theorem src_next {l:List Cmd} {k:Nat} {s:List UInt8} (hc:∀ c∈l,jI c=0) (hk:k<l.length) (hs:s=prtS (l.take k)):sC (l.getD k z3) (sB (l.getD k z3) (sA s k++(l.getD k z3).1))=prtS (l.take (k+1)):=by
 rw[src_cmd (hc _ (getD_mem hk)),take_cmd2 l k hk,hs]
 unfold prtS sA
 rw[qd,zw,zZ,joinC_snoc,zJ,zn,Nat.min_eq_left (by omega)]
theorem prt_next {l:List Cmd} {k:Nat} {out:List (List UInt8)} (hk:k<l.length) (hs:out=(l.take k).map prtW) {w:List UInt8} (hw:prtW (l.getD k z3)=w):out++[w]=(l.take (k+1)).map prtW:=by
 rw[take_cmd2 l k hk,qd,hs,<-hw];rfl
def ZP (s:List UInt8):Cmd×Bool:=
 if (qK s).length=0 then (z3,false)
 else if (qK s).getD 0 []=kEnd/\(qK s).length=1 then (((qK s).getD 0 [],[],0),true)
 else if (qK s).getD 0 []=jV/\(qK s).length=2 then (((qK s).getD 0 [],(qK s).getD 1 [],0),true)
 else if ((qK s).getD 0 []=Z7\/(qK s).getD 0 []=ZA)/\(qK s).length=2 then (((qK s).getD 0 [],[],(intV ((qK s).getD 1 [])).1),(intV ((qK s).getD 1 [])).2)
 else (((qK s).getD 0 [],[],0),false)
def badR (s:List UInt8):Bool:=(bif (bif (decide (((List.length (qK s):Nat):Int)=0)) then true else (decide ((jW (List.getD (qK s) 0 []))=0))) then true else (decide (((List.length (qK s):Nat):Int)≠(jW (List.getD (qK s) 0 [])))))
def ZE (s:List UInt8):Cmd×Bool:=
 if badR s=true then (z3,false)
 else if (qK s).getD 0 []=jV then (((qK s).getD 0 [],(qK s).getD 1 [],0),true)
 else if (qK s).length=2 then (if (intR ((qK s).getD 1 [])).isSome=true then (((qK s).getD 0 [],[],(intR ((qK s).getD 1 [])).getD 0),true) else (z3,false))
 else (((qK s).getD 0 [],[],0),true)
theorem cmd_same (s:List UInt8):(ZP s).2=(ZE s).2/\((ZE s).2=true->(ZP s).1=(ZE s).1):=by
 have e:badR s=decide ((qK s).length=0\/jW ((qK s).getD 0 [])=0\/(((qK s).length:Nat):Int)≠jW ((qK s).getD 0 [])):=by
  rw[zM]
  simp only[badR,jA,Bool.or_eq_true,zf]
  omega
 unfold ZP ZE
 rw[e]
 generalize qK s=w
 by_cases h0:w.length=0
 ·rw[if_pos h0,if_pos (zl (.inl h0))];exact⟨rfl,fun h=>by cases h⟩
 rw[if_neg h0]
 generalize hq:w.getD 0 []=q
 by_cases h1:q=kEnd
 ·subst h1
  have hw:jW kEnd=1:=rfl
  by_cases hl:w.length=1
  ·rw[if_pos ⟨rfl,hl⟩,if_neg (by rw[hw];simp[hl]),if_neg (by decide),if_neg (by omega)];exact⟨rfl,fun _=>rfl⟩
  rw[if_neg (by rintro⟨_,h⟩;exact hl h),if_neg (by rintro⟨h,_⟩;revert h;decide),if_neg (by rintro⟨h,_⟩;revert h;decide),if_pos (zl (.inr (.inr (by rw[hw];omega))))]
  exact⟨rfl,fun h=>by cases h⟩
 rw[if_neg (fun h=>h1 h.1)]
 by_cases h2:q=jV
 ·subst h2
  have hw:jW jV=2:=rfl
  by_cases hl:w.length=2
  ·rw[if_pos ⟨rfl,hl⟩,if_neg (by rw[hw];simp[hl]),if_pos rfl];exact⟨rfl,fun _=>rfl⟩
  rw[if_neg (by rintro⟨_,h⟩;exact hl h),if_neg (by rintro⟨h,_⟩;revert h;decide),if_pos (zl (.inr (.inr (by rw[hw];omega))))]
  exact⟨rfl,fun h=>by cases h⟩
 rw[if_neg (fun h=>h2 h.1),if_neg h2]
 by_cases h3:q=Z7\/q=ZA
 ·have hw:jW q=2:=by rcases h3 with rfl|rfl<;>rfl
  by_cases hl:w.length=2
  ·rw[if_pos ⟨h3,hl⟩,if_neg (by rw[hw];simp[hl]),if_pos hl]
   obtain⟨k1,k2⟩:=int_same (w.getD 1 [])
   by_cases hs:(intR (w.getD 1 [])).isSome=true
   ·rw[if_pos hs,k1,k2 hs];exact⟨hs,fun _=>rfl⟩
   rw[if_neg hs,k1];exact⟨by simpa using hs,fun h=>by cases h⟩
  rw[if_neg (fun h=>hl h.2),if_pos (zl (.inr (.inr (by rw[hw];omega))))]
  exact⟨rfl,fun h=>by cases h⟩
 have hw:jW q=0:=by
  unfold jW
  rw[if_neg h2,if_neg (fun h=>h3 (.inl h)),if_neg (fun h=>h3 (.inr h)),if_neg h1]
 rw[if_neg (fun h=>h3 h.1),if_pos (zl (.inr (.inl hw)))]
 exact⟨rfl,fun h=>by cases h⟩
abbrev Prs:=List Cmd×Int×Int
def parG (f:List UInt8->Cmd×Bool):List (List UInt8)->Nat->List Cmd->Prs
 | [],_,out=>if chkS out≠0 then ([],0,chkS out) else (out,0,0)
 | p::r,i,out=>if (f p).2=false then ([],(i:Int)+1,25) else parG f r (i+1) (out++[(f p).1])
def qY (f:List UInt8->Cmd×Bool) (s:List UInt8):Prs:=if 4096<s.length then ([],0,26) else if (qK s).length=0 then ([],0,0) else parG f (ZO 59 s) 0 []
theorem parG_same:∀ (l:List (List UInt8)) (i:Nat) (out:List Cmd),parG ZP l i out=parG ZE l i out
 | [],_,_=>rfl
 | p::r,i,out=>by
  obtain⟨h1,h2⟩:=cmd_same p
  simp only[parG]
  cases h:(ZE p).2
  ·rw[h1,h,if_pos rfl,if_pos rfl]
  rw[h1,h,if_neg (by decide),if_neg (by decide),h2 h,parG_same r]
theorem par_same (s:List UInt8):qY ZP s=qY ZE s:=by
 unfold qY
 rw[parG_same]
section
variable {f:List UInt8->Cmd×Bool} {l:List (List UInt8)} {k:Nat} {out:List Cmd}
theorem parG_no (hk:k<l.length) (h:(f (l.getD k [])).2=false):parG f (l.drop k) k out=([],(k:Int)+1,25):=by
 rw[drop_at l k [] hk,parG,if_pos h]
theorem parG_go (hk:k<l.length) (h:(f (l.getD k [])).2=true):parG f (l.drop k) k out=parG f (l.drop (k+1)) (k+1) (out++[(f (l.getD k [])).1]):=by
 rw[drop_at l k [] hk,parG,if_neg (by rw[h];decide)]
theorem parG_bad (hk:¬k<l.length) (h:chkS out≠0):parG f (l.drop k) k out=([],0,chkS out):=by
 rw[zN (by omega),parG,if_pos h]
theorem parG_end (hk:¬k<l.length) (h:¬chkS out≠0):parG f (l.drop k) k out=(out,0,0):=by
 rw[zN (by omega),parG,if_neg h]
end
section
variable {f:List UInt8->Cmd×Bool} {s:List UInt8}
theorem kY (h:4096<((s.length:Nat):Int)):qY f s=([],0,26):=by unfold qY;rw[if_pos (by omega)]
theorem Zb (h:¬4096<((s.length:Nat):Int)) (h1:((List.length (qK s):Nat):Int)=0):qY f s=([],0,0):=by unfold qY;rw[if_neg (by omega),if_pos (by omega)]
theorem parScr_go (h:¬4096<((s.length:Nat):Int)) (h1:¬((List.length (qK s):Nat):Int)=0):qY f s=parG f (List.drop 0 (ZO 59 s)) 0 []:=by unfold qY;rw[if_neg (by omega),if_neg (by omega)];rfl
end
section
variable {n m:Int} {s:List UInt8}
abbrev dgs:List UInt8:=[48,49,50,51,52,53,54,55,56,57]
theorem dg10:∀ k:Nat,k<10->List.drop k (List.take (k+1) dgs)=[UInt8.ofNat (48+k)]:=by decide
theorem dg_at (h:0<=m):List.drop (Int.toNat (m%10)) (List.take (Int.toNat ((m%10)+1)) dgs)=[UInt8.ofNat (48+m.toNat%10)]:=by
 rw[show Int.toNat (m%10)=m.toNat%10 by omega,show Int.toNat ((m%10)+1)=m.toNat%10+1 by omega]
 exact dg10 _ (by omega)
def DecI (n m:Int) (s:List UInt8):Prop:=0<=m/\m<=n/\((s=[]/\m=n)\/(s≠[]/\((m=0/\s=Lib.itoa n)\/(0<m/\Lib.itoa m++s=Lib.itoa n))))
theorem decI_0 (h:0<=n):DecI n n []:=⟨h,Int.le_refl _,.inl ⟨rfl,rfl⟩⟩
theorem decI_rng (h:DecI n m s):0<=m/\m<=n:=⟨h.1,h.2.1⟩
theorem decI_len (h:DecI n m s) (h0:0<=n) (h1:n<=999999999):s.length<=9:=by
 have hl:=itoa_len h0 h1
 obtain⟨_,_,⟨e,_⟩|⟨_,⟨_,e⟩|⟨_,e⟩⟩⟩:=h
 ·rw[e];exact zq _
 ·rw[e];exact hl
 rw[<-e,za] at hl;omega
theorem itoa_div (h0:0<=m):(m<10->Lib.itoa m=[UInt8.ofNat (48+m.toNat%10)])/\(¬m<10->Lib.itoa m=Lib.itoa (m / 10)++[UInt8.ofNat (48+m.toNat%10)]):=by
 obtain⟨k,rfl⟩:∃ k:Nat,m=(k:Int):=⟨m.toNat,by omega⟩
 rw[show ((k:Int) / 10)=((k / 10:Nat):Int) by omega,itoa_nat,itoa_nat,zU]
 constructor
 ·intro h
  rw[dd_small (by omega),show k%10=k by omega]
 intro h
 rw[dd_big (by omega)]
theorem decI_next (h:DecI n m s) (hc:(bif (decide (0<m)) then true else (decide (((s.length:Nat):Int)<1)))=true):DecI n (m / 10) (List.drop (Int.toNat (m%10)) (List.take (Int.toNat ((m%10)+1)) dgs)++s):=by
 obtain⟨h0,h1,h2⟩:=h
 rw[dg_at h0]
 obtain⟨d1,d2⟩:=itoa_div h0
 refine⟨by omega,by omega,.inr ⟨by simp,?_⟩⟩
 rcases h2 with ⟨rfl,rfl⟩|⟨hs,h2⟩
 ·by_cases h10:m<10
  ·exact .inl ⟨by omega,by rw[d1 h10];simp⟩
  exact .inr ⟨by omega,by rw[d2 h10];simp⟩
 rw[jA,Bool.or_eq_true,zf,zf] at hc
 have hl:0<s.length:=List.length_pos_iff.2 hs
 rcases h2 with ⟨h3,_⟩|⟨h3,h4⟩
 ·omega
 by_cases h10:m<10
 ·exact .inl ⟨by omega,by rw[<-h4,d1 h10]⟩
 exact .inr ⟨by omega,by rw[<-h4,d2 h10];simp⟩
theorem decI_less (h:DecI n m s) (hc:(bif (decide (0<m)) then true else (decide (((s.length:Nat):Int)<1)))=true):Int.toNat (m / 10)+(1-List.length (List.drop (Int.toNat (m%10)) (List.take (Int.toNat ((m%10)+1)) dgs)++s))<Int.toNat m+(1-List.length s):=by
 obtain⟨h0,h1,h2⟩:=h
 rw[dg_at h0,jA,Bool.or_eq_true,zf,zf] at*
 simp only[za,zb,zd]
 omega
theorem decI_end (h:DecI n m s) (hc:(bif (decide (0<m)) then true else (decide (((s.length:Nat):Int)<1)))=false):s=Lib.itoa n:=by
 rw[jA,qc,zH,zH] at hc
 obtain⟨_,_,⟨e,_⟩|⟨_,⟨_,e⟩|⟨h3,_⟩⟩⟩:=h
 ·rw[e] at hc;simp at hc
 ·exact e
 omega
def txtF (l:List Int):List UInt8:=if l.length=0 then [48] else Lib.itoa (l.getD (l.length-1) 0)
theorem txt_0 {l:List Int} (h:((l.length:Nat):Int)=0):txtF l=[48]:=if_pos (by omega)
theorem txt_1 {l:List Int} (h:¬((l.length:Nat):Int)=0):txtF l=Lib.itoa (l.getD (l.length-1) 0):=if_neg (by omega)
def wF (n:Int):List Int:=if n=0 then [] else [n]
theorem wF_len (n:Int):(wF n).length<=1:=by unfold wF;split<;>simp
theorem wF_rng (h0:0<=n) (h1:n<=999999999):∀ x∈wF n,0<=x/\x<=999999999:=by
 unfold wF;split
 ·intro x hx;cases hx
 intro x hx
 have:x=n:=by simpa using hx
 omega
theorem txt_w (h0:0<=n):txtF (wF n)=Lib.itoa n:=by
 unfold wF;split
 ·rename_i h
  subst h
  have:=itoa_nat 0
  rw[dd_small (by omega)] at this
  exact this.symm
 rfl
theorem trim_no {l:List Int} (h:(bif (decide (0<((l.length:Nat):Int))) then (decide ((l.getD (l.length-1) 0)=0)) else false)=true):0<l.length/\(l.getD (l.length-1) 0)=0:=by
 rw[jw,zj,zf,zf] at h
 exact⟨by omega,h.2⟩
def WhI (n m:Int) (out:List Int):Prop:=(m=n/\out=[])\/(m=0/\out=[n]/\n≠0)
variable {out:List Int}
theorem whI_next (h:WhI n m out) (h0:0<=n) (h1:n<=999999999) (hm:m≠0):WhI n (m / 1000000000) (out++[m%1000000000]):=by
 rcases h with ⟨rfl,rfl⟩|⟨h,_⟩
 ·exact .inr ⟨by omega,by rw[show m%1000000000=m by omega];rfl,hm⟩
 exact absurd h hm
theorem whI_rng (h:WhI n m out) (h0:0<=n) (h1:n<=999999999):0<=m/\m<=999999999:=by
 rcases h with ⟨rfl,_⟩|⟨h,_⟩<;>omega
theorem whI_len (h:WhI n m out):out.length<=1:=by
 rcases h with ⟨_,rfl⟩|⟨_,rfl,_⟩<;>simp
theorem whI_end (h:WhI n m out) (hm:m=0):out=wF n:=by
 unfold wF
 rcases h with ⟨h1,h2⟩|⟨_,h2,h3⟩
 ·rw[if_pos (by omega),h2]
 rw[if_neg h3,h2]
theorem whI_nz (h:WhI n m out):∀ x∈out,x≠0:=by
 rcases h with ⟨_,rfl⟩|⟨_,rfl,h3⟩
 ·intro x hx;cases hx
 intro x hx
 have:x=n:=by simpa using hx
 rw[this];exact h3
theorem intB_next {b q:Int} (h:n<q) (hb:b<=57):10*n+(b-48)<10*q:=by omega
end
theorem splS_len (s:List UInt8):(jZ s).length<=s.length+1:=by
 have:=splC_len 32 s
 rwa [splC_32] at this
section
variable {n:Nat} {a b:Bool}
theorem gd_len1 (h:((decide (((n:Nat):Int)=0))==false)=true):0<n:=by
 have:=of_decide_eq_false (eqf h);omega
theorem gd_len2b (h:(bif (decide (((n:Nat):Int)=0)) then true else b)=false):0<n:=by
 rw[jA,qc,zH] at h;omega
theorem gd_len2 (h:((bif (decide (((n:Nat):Int)=0)) then true else b)==false)=true):0<n:=gd_len2b (eqf h)
theorem gd_len3 (h:(bif (bif (decide (((n:Nat):Int)=0)) then true else a) then true else b)=false):0<n:=by
 rw[jA,qc] at h;exact gd_len2b h.1
theorem gd_len4 (h:(a&&((decide (1<((n:Nat):Int)))==true))=true):0<n:=by
 rw[zj] at h
 have:=of_decide_eq_true (eqt h.2);omega
end
section
variable {s:List UInt8}
theorem cv_0 (h1:((List.length (qK s):Nat):Int)=0):ZP s=(z3,false):=by unfold ZP;rw[if_pos (by omega)]
theorem cv_q1 {n:Nat} {p:Prop} [Decidable p] (q:Nat):(bif (decide p) then (decide (((n:Nat):Int)=((q:Nat):Int))) else false)=true↔p/\n=q:=by
 rw[jw,zj,zf,zf]
 exact⟨fun h=>⟨h.1,by omega⟩,fun h=>⟨h.1,by omega⟩⟩
theorem cv_q2 {n:Nat} {p q:Prop} [Decidable p] [Decidable q] (k:Nat):(bif (bif (decide p) then true else (decide q)) then (decide (((n:Nat):Int)=((k:Nat):Int))) else false)=true↔(p\/q)/\n=k:=by
 rw[jw,jA,zj,Bool.or_eq_true,zf,zf,zf]
 exact⟨fun h=>⟨h.1,by omega⟩,fun h=>⟨h.1,by omega⟩⟩
theorem b_ne {b:Bool} (h:b=false):¬b=true:=by rw[h];decide
abbrev cE (s:List UInt8):Bool:=(bif (decide ((List.getD (qK s) 0 [])=[101,110,100])) then (decide (((List.length (qK s):Nat):Int)=1)) else false)
abbrev cA (s:List UInt8):Bool:=(bif (decide ((List.getD (qK s) 0 [])=[97,99,116])) then (decide (((List.length (qK s):Nat):Int)=2)) else false)
abbrev cI (s:List UInt8):Bool:=(bif (bif (decide ((List.getD (qK s) 0 [])=[119,97,105,116])) then true else (decide ((List.getD (qK s) 0 [])=[114,101,112,101,97,116]))) then (decide (((List.length (qK s):Nat):Int)=2)) else false)
theorem cv_two (h:cI s=true):(qK s).length=2:=((cv_q2 2).1 h).2
theorem cv_two2 (h:cA s=true):(qK s).length=2:=((cv_q1 2).1 h).2
variable (h1:¬((List.length (qK s):Nat):Int)=0)
include h1
theorem cv_E (h2:cE s=true):ZP s=(((qK s).getD 0 [],[],0),true):=by
 unfold ZP;rw[if_neg (by omega),if_pos ((cv_q1 1).1 h2)]
theorem cv_A (h2:cE s=false) (h3:cA s=true):ZP s=(((qK s).getD 0 [],(qK s).getD 1 [],0),true):=by
 unfold ZP;rw[if_neg (by omega),if_neg (fun h=>b_ne h2 ((cv_q1 1).2 h)),if_pos ((cv_q1 2).1 h3)]
theorem cv_I (h2:cE s=false) (h3:cA s=false) (h4:cI s=true):ZP s=(((qK s).getD 0 [],[],(intV ((qK s).getD 1 [])).1),(intV ((qK s).getD 1 [])).2):=by
 unfold ZP;rw[if_neg (by omega),if_neg (fun h=>b_ne h2 ((cv_q1 1).2 h)),if_neg (fun h=>b_ne h3 ((cv_q1 2).2 h)),if_pos ((cv_q2 2).1 h4)]
theorem cv_N (h2:cE s=false) (h3:cA s=false) (h4:cI s=false):ZP s=(((qK s).getD 0 [],[],0),false):=by
 unfold ZP;rw[if_neg (by omega),if_neg (fun h=>b_ne h2 ((cv_q1 1).2 h)),if_neg (fun h=>b_ne h3 ((cv_q1 2).2 h)),if_neg (fun h=>b_ne h4 ((cv_q2 2).2 h))]
end
section
variable {s:List UInt8}
theorem badR_pos (h:badR s=false):0<(qK s).length:=gd_len3 h
theorem badR_len (h:badR s=false):(((qK s).length:Nat):Int)=jW ((qK s).getD 0 []):=by
 unfold badR at h
 rw[jA,qc,zH] at h
 exact zi.1 h.2
theorem badR_act (h:badR s=false) (h5:(List.getD (qK s) 0 [])=[97,99,116]):(qK s).length=2:=by
 have:=badR_len h
 rw[h5] at this
 have e:jW [97,99,116]=2:=rfl
 omega
theorem cr_B (h:badR s=true):(ZE s).2=false:=by unfold ZE;rw[if_pos h]
theorem cr_A (h:badR s=false) (h5:(List.getD (qK s) 0 [])=[97,99,116]):ZE s=(((qK s).getD 0 [],(qK s).getD 1 [],0),true):=by
 unfold ZE;rw[if_neg (b_ne h),if_pos h5]
variable (h:badR s=false) (h5:¬(List.getD (qK s) 0 [])=[97,99,116])
include h h5
theorem cr_I (h6:((List.length (qK s):Nat):Int)=2) (h7:(!(Option.isSome (intR (List.getD (qK s) 1 []))))=true):(ZE s).2=false:=by
 unfold ZE;rw[if_neg (b_ne h),if_neg h5,if_pos (by omega),if_neg (b_ne (bnot_t h7))]
theorem cr_V (h6:((List.length (qK s):Nat):Int)=2) (h7:(!(Option.isSome (intR (List.getD (qK s) 1 []))))=false):ZE s=(((qK s).getD 0 [],[],(intR ((qK s).getD 1 [])).getD 0),true):=by
 unfold ZE;rw[if_neg (b_ne h),if_neg h5,if_pos (by omega),if_pos (bnot_f h7)]
theorem cr_N (h6:¬((List.length (qK s):Nat):Int)=2):ZE s=(((qK s).getD 0 [],[],0),true):=by
 unfold ZE;rw[if_neg (b_ne h),if_neg h5,if_neg (by omega)]
end
theorem parG_at {f:List UInt8->Cmd×Bool} {l:List (List UInt8)} {k:Nat} {out:List Cmd} {c:Cmd} (hk:k<l.length) (h:f (l.getD k [])=(c,true)):parG f (l.drop k) k out=parG f (l.drop (k+1)) (k+1) (out++[c]):=by
 rw[parG_go hk (by rw[h]),h]
theorem int_chk {v:Int} {s:List UInt8}:(bif (bif (bif true then (decide (0<=v)) else false) then (decide (v<=999999999)) else false) then (decide (Lib.itoa v=s)) else false)=decide (0<=v/\v<=999999999/\Lib.itoa v=s):=by
 rw[zM]
 simp only[jw,zj,zf,true_and,and_assoc]
section
variable [Lz]
theorem w185 (hp:qH) (n:Int) (h:R64 n):CKa 185 [vI n] (vS (bsO (Lib.itoa n))):=by
 have h1:extO ext 185 0 [vI n] []=some (lit (.string ⟨(itoaF n).toArray⟩),[]):=by
  show (bif in64 n then some (lit (.string ⟨(itoaF n).toArray⟩),[]) else none)=_
  have:in64 n=true:=zl h
  rw[this];rfl
 rw[itoaF_eq h.1 (by have:=h.2;omega)] at h1
 exact extO_ok (ext_ok hp) _ _ _ _ _ _ h1
end
end Go.Lens.Tm
end
section
namespace Go.Proofs
open Go.Shelf
def Tryz.lays156_ren:Go.Shelf.Ren:=⟨fun|156=>169|165=>242|166=>157|169=>158|240=>218|241=>284|276=>281|277=>308|n=>n,fun|31=>73|9=>9|3=>3|4=>4|0=>0|20=>20|72=>271|76=>274|70=>269|37=>150|75=>273|127=>333|164=>371|5=>5|80=>145|n=>n,fun|n=>n⟩
theorem Tryz.lays156:Go.Proofs.Lays.n156 Tryz.prog Tryz.lays156_ren:={
  mixed:=by kernel_rfl
  f156:=Tryz.func169.trans (congrArg some (by kernel_rfl))
  f165:=Tryz.func242.trans (congrArg some (by kernel_rfl))
  f166:=Tryz.func157.trans (congrArg some (by kernel_rfl))
  f169:=Tryz.func158.trans (congrArg some (by kernel_rfl))
  f240:=Tryz.func218.trans (congrArg some (by kernel_rfl))
  f241:=Tryz.func284.trans (congrArg some (by kernel_rfl))
  f276:=Tryz.func281.trans (congrArg some (by kernel_rfl))
  f277:=Tryz.func308.trans (congrArg some (by kernel_rfl))
  t0:=Tryz.underlying0
  a0:=Tryz.isAgg0
  z0:=Tryz.sizeOf0
  v0:=Tryz.zeroValue0
  t3:=Tryz.underlying3
  a3:=Tryz.isAgg3
  z3:=Tryz.sizeOf3
  v3:=Tryz.zeroValue3
  t4:=Tryz.underlying4
  a4:=Tryz.isAgg4
  z4:=Tryz.sizeOf4
  v4:=Tryz.zeroValue4
  t9:=Tryz.underlying9
  a9:=Tryz.isAgg9
  z9:=Tryz.sizeOf9
  v9:=Tryz.zeroValue9
  t20:=Tryz.underlying20
  a20:=Tryz.isAgg20
  z20:=Tryz.sizeOf20
  v20:=Tryz.zeroValue20
  t31:=Tryz.underlying73
  a31:=Tryz.isAgg73
  z31:=Tryz.sizeOf73
  v31:=Tryz.zeroValue73
  t37:=Tryz.underlying150
  a37:=Tryz.isAgg150
  z37:=Tryz.sizeOf150
  v37:=Tryz.zeroValue150
  t70:=Tryz.underlying269
  a70:=Tryz.isAgg269
  z70:=Tryz.sizeOf269
  v70:=Tryz.zeroValue269
  t72:=Tryz.underlying271
  a72:=Tryz.isAgg271
  z72:=Tryz.sizeOf271
  v72:=Tryz.zeroValue271
  t75:=Tryz.underlying273
  a75:=Tryz.isAgg273
  z75:=Tryz.sizeOf273
  v75:=Tryz.zeroValue273
  t76:=Tryz.underlying274
  a76:=Tryz.isAgg274
  z76:=Tryz.sizeOf274
  v76:=Tryz.zeroValue274
  t127:=Tryz.underlying333
  a127:=Tryz.isAgg333
  z127:=Tryz.sizeOf333
  v127:=Tryz.zeroValue333
  t164:=Tryz.underlying371
  a164:=Tryz.isAgg371
  z164:=Tryz.sizeOf371
  v164:=Tryz.zeroValue371 }
theorem Tryz.Builder_Extra_156:Builder.Extra Tryz.prog Tryz.lays156_ren:={
  sizeBuilder:=by kernel_rfl
  liesBuilder:=by kernel_rfl
  t5:=Tryz.underlying5
  a5:=Tryz.isAgg5
  z5:=Tryz.sizeOf5
  v5:=Tryz.zeroValue5
  infoByte:=by kernel_rfl
  cellsByte:=by kernel_rfl
  sizeByte:=by kernel_rfl
  neB5:=by decide }
open Go.RowKit in
theorem Tryz.strings_Join_none (a:Option Addr) (c:Nat) (sep:ByteArray) (w:World) :
    Calls Tryz.prog 169 #[.slice a 0 c,.string sep] w fun e w'=>e=.returned (.string ⟨#[]⟩)/\w'=w:=Any.strings_Join_none Tryz.lays156 Tryz.Builder_Extra_156 a c sep w
open Go.RowKit in
theorem Tryz.strings_Join (bk o c:Nat) (xs:List ByteArray) (sep:ByteArray) (w:World) (hcells:∀ (j:Nat) x,xs[j]? =some x->w.cell? ⟨bk,o+j,none⟩=some (.string x)) (hbk:bk<w.heap.size) (hN:xs.length<=140737488355328) (hcap:xs.length<=c) (hlen:(Lib.join (xs.map (·.data.toList)) sep.data.toList).length<=140737488355328) :
    Calls Tryz.prog 169 #[.slice (some ⟨bk,o,none⟩) xs.length c,.string sep] w fun e w'=>e=.returned (.string ⟨(Lib.join (xs.map (·.data.toList)) sep.data.toList).toArray⟩)/\Below w.heap.size w w':=Any.strings_Join Tryz.lays156 Tryz.Builder_Extra_156 bk o c xs sep w hcells hbk hN hcap hlen
end Go.Proofs
end
section
namespace Go.Proofs
open Go.Shelf
def Tryz.laysC172_ren:Go.Shelf.Ren:=⟨fun|172=>256|244=>297|245=>298|247=>327|279=>328|280=>329|281=>330|282=>331|287=>349|316=>350|171=>185|205=>351|321=>357|322=>358|243=>255|246=>296|283=>323|284=>324|285=>325|286=>326|129=>322|317=>345|318=>346|319=>347|320=>348|337=>355|338=>356|n=>n,fun|9=>9|3=>3|75=>273|76=>274|4=>4|5=>5|167=>411|37=>150|0=>0|85=>412|2=>2|168=>414|53=>406|175=>436|46=>378|210=>439|127=>333|145=>447|143=>445|21=>21|171=>407|173=>409|212=>434|51=>394|20=>20|213=>435|232=>448|233=>449|80=>145|n=>n,fun|15=>4|16=>5|17=>3|18=>6|19=>7|n=>n⟩
theorem Tryz.laysC172:Go.Proofs.LaysC.n172 Tryz.prog Tryz.laysC172_ren:={
  mixed:=by kernel_rfl
  f129:=Tryz.func322.trans (congrArg some (by kernel_rfl))
  f171:=Tryz.func185.trans (congrArg some (by kernel_rfl))
  f172:=Tryz.func256.trans (congrArg some (by kernel_rfl))
  f205:=Tryz.func351.trans (congrArg some (by kernel_rfl))
  f243:=Tryz.func255.trans (congrArg some (by kernel_rfl))
  f244:=Tryz.func297.trans (congrArg some (by kernel_rfl))
  f245:=Tryz.func298.trans (congrArg some (by kernel_rfl))
  f246:=Tryz.func296.trans (congrArg some (by kernel_rfl))
  f247:=Tryz.func327.trans (congrArg some (by kernel_rfl))
  f279:=Tryz.func328.trans (congrArg some (by kernel_rfl))
  f280:=Tryz.func329.trans (congrArg some (by kernel_rfl))
  f281:=Tryz.func330.trans (congrArg some (by kernel_rfl))
  f282:=Tryz.func331.trans (congrArg some (by kernel_rfl))
  f283:=Tryz.func323.trans (congrArg some (by kernel_rfl))
  f284:=Tryz.func324.trans (congrArg some (by kernel_rfl))
  f285:=Tryz.func325.trans (congrArg some (by kernel_rfl))
  f286:=Tryz.func326.trans (congrArg some (by kernel_rfl))
  f287:=Tryz.func349.trans (congrArg some (by kernel_rfl))
  f316:=Tryz.func350.trans (congrArg some (by kernel_rfl))
  f317:=Tryz.func345.trans (congrArg some (by kernel_rfl))
  f318:=Tryz.func346.trans (congrArg some (by kernel_rfl))
  f319:=Tryz.func347.trans (congrArg some (by kernel_rfl))
  f320:=Tryz.func348.trans (congrArg some (by kernel_rfl))
  f321:=Tryz.func357.trans (congrArg some (by kernel_rfl))
  f322:=Tryz.func358.trans (congrArg some (by kernel_rfl))
  f337:=Tryz.func355.trans (congrArg some (by kernel_rfl))
  f338:=Tryz.func356.trans (congrArg some (by kernel_rfl))
  t0:=Tryz.underlying0
  a0:=Tryz.isAgg0
  z0:=Tryz.sizeOf0
  v0:=Tryz.zeroValue0
  t2:=Tryz.underlying2
  a2:=Tryz.isAgg2
  z2:=Tryz.sizeOf2
  v2:=Tryz.zeroValue2
  t3:=Tryz.underlying3
  a3:=Tryz.isAgg3
  z3:=Tryz.sizeOf3
  v3:=Tryz.zeroValue3
  t4:=Tryz.underlying4
  a4:=Tryz.isAgg4
  z4:=Tryz.sizeOf4
  v4:=Tryz.zeroValue4
  t5:=Tryz.underlying5
  a5:=Tryz.isAgg5
  z5:=Tryz.sizeOf5
  v5:=Tryz.zeroValue5
  t9:=Tryz.underlying9
  a9:=Tryz.isAgg9
  z9:=Tryz.sizeOf9
  v9:=Tryz.zeroValue9
  t20:=Tryz.underlying20
  a20:=Tryz.isAgg20
  z20:=Tryz.sizeOf20
  v20:=Tryz.zeroValue20
  t21:=Tryz.underlying21
  a21:=Tryz.isAgg21
  z21:=Tryz.sizeOf21
  v21:=Tryz.zeroValue21
  t37:=Tryz.underlying150
  a37:=Tryz.isAgg150
  z37:=Tryz.sizeOf150
  v37:=Tryz.zeroValue150
  t46:=Tryz.underlying378
  a46:=Tryz.isAgg378
  z46:=Tryz.sizeOf378
  v46:=Tryz.zeroValue378
  t51:=Tryz.underlying394
  a51:=Tryz.isAgg394
  z51:=Tryz.sizeOf394
  v51:=Tryz.zeroValue394
  t53:=Tryz.underlying406
  a53:=Tryz.isAgg406
  z53:=Tryz.sizeOf406
  v53:=Tryz.zeroValue406
  t75:=Tryz.underlying273
  a75:=Tryz.isAgg273
  z75:=Tryz.sizeOf273
  v75:=Tryz.zeroValue273
  t76:=Tryz.underlying274
  a76:=Tryz.isAgg274
  z76:=Tryz.sizeOf274
  v76:=Tryz.zeroValue274
  t85:=Tryz.underlying412
  a85:=Tryz.isAgg412
  z85:=Tryz.sizeOf412
  v85:=Tryz.zeroValue412
  t127:=Tryz.underlying333
  a127:=Tryz.isAgg333
  z127:=Tryz.sizeOf333
  v127:=Tryz.zeroValue333
  t143:=Tryz.underlying445
  a143:=Tryz.isAgg445
  z143:=Tryz.sizeOf445
  v143:=Tryz.zeroValue445
  t145:=Tryz.underlying447
  a145:=Tryz.isAgg447
  z145:=Tryz.sizeOf447
  v145:=Tryz.zeroValue447
  t167:=Tryz.underlying411
  a167:=Tryz.isAgg411
  z167:=Tryz.sizeOf411
  v167:=Tryz.zeroValue411
  t168:=Tryz.underlying414
  a168:=Tryz.isAgg414
  z168:=Tryz.sizeOf414
  v168:=Tryz.zeroValue414
  t171:=Tryz.underlying407
  a171:=Tryz.isAgg407
  z171:=Tryz.sizeOf407
  v171:=Tryz.zeroValue407
  t173:=Tryz.underlying409
  a173:=Tryz.isAgg409
  z173:=Tryz.sizeOf409
  v173:=Tryz.zeroValue409
  t175:=Tryz.underlying436
  a175:=Tryz.isAgg436
  z175:=Tryz.sizeOf436
  v175:=Tryz.zeroValue436
  t210:=Tryz.underlying439
  a210:=Tryz.isAgg439
  z210:=Tryz.sizeOf439
  v210:=Tryz.zeroValue439
  t212:=Tryz.underlying434
  a212:=Tryz.isAgg434
  z212:=Tryz.sizeOf434
  v212:=Tryz.zeroValue434
  t213:=Tryz.underlying435
  a213:=Tryz.isAgg435
  z213:=Tryz.sizeOf435
  t232:=Tryz.underlying448
  a232:=Tryz.isAgg448
  z232:=Tryz.sizeOf448
  v232:=Tryz.zeroValue448
  t233:=Tryz.underlying449
  a233:=Tryz.isAgg449
  z233:=Tryz.sizeOf449
  v233:=Tryz.zeroValue449
  g15:=by kernel_rfl
  g16:=by kernel_rfl
  g17:=by kernel_rfl
  g18:=by kernel_rfl
  g19:=by kernel_rfl
  t80:=Tryz.underlying145
  a80:=Tryz.isAgg145
  z80:=Tryz.sizeOf145
  v80:=Tryz.zeroValue145
  i0:=by kernel_rfl
  i2:=by kernel_rfl
  i3:=by kernel_rfl
  i4:=by kernel_rfl
  i5:=by kernel_rfl
  i9:=by kernel_rfl
  i20:=by kernel_rfl
  i21:=by kernel_rfl
  i37:=by kernel_rfl
  i46:=by kernel_rfl
  i51:=by kernel_rfl
  i53:=by kernel_rfl
  i75:=by kernel_rfl
  i76:=by kernel_rfl
  i80:=by kernel_rfl
  i85:=by kernel_rfl
  i127:=by kernel_rfl
  i143:=by kernel_rfl
  i145:=by kernel_rfl
  i167:=by kernel_rfl
  i168:=by kernel_rfl
  i171:=by kernel_rfl
  i173:=by kernel_rfl
  i175:=by kernel_rfl
  i210:=by kernel_rfl
  i212:=by kernel_rfl
  i232:=by kernel_rfl
  i233:=by kernel_rfl
  m15:=by kernel_rfl
  m16:=by kernel_rfl
  m17:=by kernel_rfl
  m18:=by kernel_rfl
  m19:=by kernel_rfl
  c0:=by kernel_rfl
  c2:=by kernel_rfl
  c3:=by kernel_rfl
  c4:=by kernel_rfl
  c5:=by kernel_rfl
  c9:=by kernel_rfl
  c20:=by kernel_rfl
  c21:=by kernel_rfl
  c37:=by kernel_rfl
  c46:=by kernel_rfl
  c51:=by kernel_rfl
  c53:=by kernel_rfl
  c75:=by kernel_rfl
  c76:=by kernel_rfl
  c80:=by kernel_rfl
  c85:=by kernel_rfl
  c127:=by kernel_rfl
  c143:=by kernel_rfl
  c145:=by kernel_rfl
  c167:=by kernel_rfl
  c168:=by kernel_rfl
  c171:=by kernel_rfl
  c173:=by kernel_rfl
  c175:=by kernel_rfl
  c210:=by kernel_rfl
  c212:=by kernel_rfl
  c213:=by kernel_rfl
  c232:=by kernel_rfl
  c233:=by kernel_rfl }
open Go.RowKit in
theorem Tryz.strconv_Atoi_ok (s:ByteArray) (hmax:s.size<=9223372036854775806) (v:Int) (h:Lib.atoiAll s.data.toList=.ok v) (w:World) :
    Calls Tryz.prog 256 #[.string s] w fun e w'=>e=.returned (.tuple #[.int .i64 v,.nilIface])/\(w'=w\/∃ t,w'=Lib.bytesWorld w 5 t):=Any.strconv_Atoi_ok Tryz.laysC172 s hmax v h w
open Go.RowKit in
theorem Tryz.strconv_Atoi_form_var (s:ByteArray) (hlim:s.size<=281474976710656) (hok:∀ v,Lib.atoiAll s.data.toList≠.ok v) (hr:Lib.atoiAll s.data.toList≠.range) (tp:TypeId) (p:Value) (w:World) (hvar:w.var? Tryz.prog "strconv.ErrSyntax" =some #[.iface tp p]) :
    Calls Tryz.prog 256 #[.string s] w fun e w'=>∃ N,e=.returned (.tuple #[.int .i64 0,.iface 414 (.pointer (some ⟨N,0,none⟩))])/\w.heap.size<=N/\w'.heap[N]? =some (.cells #[.string ⟨#[65,116,111,105]⟩,.string s,.iface tp p] 439 (0,0))/\Below w.heap.size w w':=by
  cases h:Lib.atoiAll s.data.toList
  · exact absurd h (hok _)
  · exact Any.strconv_Atoi_syntax_var Tryz.laysC172 s hlim h tp p w hvar
  · exact absurd h hr
open Go.RowKit in
theorem Tryz.strconv_Atoi_range_var (s:ByteArray) (hlim:s.size<=281474976710656) (h:Lib.atoiAll s.data.toList=.range) (tp:TypeId) (p:Value) (w:World) (hvar:w.var? Tryz.prog "strconv.ErrRange" =some #[.iface tp p]) :
    Calls Tryz.prog 256 #[.string s] w fun e w'=>∃ N,e=.returned (.tuple #[.int .i64 (Lib.atoiSat s.data.toList),.iface 414 (.pointer (some ⟨N,0,none⟩))])/\w.heap.size<=N/\w'.heap[N]? =some (.cells #[.string ⟨#[65,116,111,105]⟩,.string s,.iface tp p] 439 (0,0))/\Below w.heap.size w w':=Any.strconv_Atoi_range_var Tryz.laysC172 s hlim h tp p w hvar
end Go.Proofs
end
section
namespace Go.Lens.Tm
open Go.Lens.Tb Go.Proofs Go.RowKit
variable [Lz]
theorem elems_cells {R:Rd} {b esz:Nat}:∀ (l:List (List UInt8)) (off:Nat),qQ R (l.map eN) b off esz->∀ (j:Nat) (x:List UInt8),l[j]? =some x->R.cell b (off+j)=some (.string (bsO x))
 | [],_,_,j,x,h=>by simp at h
 | a::l,off,H,j,x,h=>by
  simp only[zw,qQ] at H
  obtain⟨h1,h2,h3⟩:=H
  have e1:esz=1:=h1.symm
  subst e1
  cases j with
  | zero=>
   have hx:a=x:=by simpa using h
   subst hx
   simp only[eN,qW,qN] at h2
   obtain⟨⟨v,k1,_,k2,_⟩,_⟩:=h2
   rw[Nat.add_zero,k1,k2]
  | succ j=>
   have:=elems_cells l (off+1) h3 j x (by simpa using h)
   rwa [show off+(j+1)=off+1+j by omega]
theorem join_lib:∀ ws:List (List UInt8),Lib.join ws [32]=joinF ws
 | []=>rfl
 | w::r=>by
  rw[Lib.join_cons]
  simp only[Lib.joinTail,joinF,List.flatMap]
  rfl
theorem join_len (ws:List (List UInt8)) (N:Nat) (h:∀ w∈ws,w.length<=N):(joinF ws).length<=ws.length*(N+1):=by
 cases ws with
 | nil=>simp[joinF]
 | cons w r=>
  have key:∀ r:List (List UInt8),(∀ w∈r,w.length<=N)->(r.flatMap fun x=>32::x).length<=r.length*(N+1):=by
   intro r
   induction r with
   | nil=>intro _;simp
   | cons a r ih=>
    intro hr
    have h1:=ih fun w hw=>hr w (by simp[hw])
    have h2:=hr a (by simp)
    simp only[List.flatMap_cons,za,zb,Nat.add_mul,Nat.one_mul]
    omega
  have h1:=key r fun w hw=>h w (by simp[hw])
  have h2:=h w (by simp)
  simp only[joinF,za,zb,Nat.add_mul,Nat.one_mul]
  omega
theorem join_ok:jE:=by
 intro ws hn hw
 refine⟨fun k hk=>?_,fun G w vs M hv=>.inl ?_⟩
 ·simp[DV.qT,DV.refs] at hk
 obtain⟨v,v2,rfl,h1,h2⟩:=hv.two
 have e2:=(qC h2).1
 subst e2
 simp only[qz,qN] at h1
 obtain⟨a,cap,rfl,hcap,hes⟩:=h1
 refine⟨Tryz.call169 _ _,?_⟩
 have fin:∀ w':World,Below w.heap.size w w'->∃ G',Stepped G w (qx []) (vS (bsO (joinF ws))) [] G' w' (.string (bsO (joinF ws))):=fun w' hB=>
  ⟨G,jS M.ctx hB.os hB.tape hB.output hB.size (fun k hk=>hB.block k hk) (qO Z) (by simp[DV.refs])⟩
 by_cases h0:ws=[]
 ·subst h0
  refine Calls.mono (Tryz.strings_Join_none a cap (bsO [32]) w) ?_
  rintro e w' ⟨he,hw'⟩
  exact⟨_,he,fin w' (hw'▸Below.refl _ _)⟩
 rcases hes with hes|⟨b,off,esz,rfl,hel⟩
 ·exact absurd (List.map_eq_nil_iff.1 hes) h0
 have hcell:∀ (j:Nat) (x:ByteArray),(ws.map bsO)[j]? =some x->w.cell? ⟨b,off+j,none⟩=some (.string x):=by
  intro j x hj
  rw[qf] at hj
  obtain⟨y,hy,rfl⟩:=Option.map_eq_some_iff.1 hj
  exact M.readable.1 _ _ _ (elems_cells ws off hel j y hy)
 have hd:(ws.map bsO).map (·.data.toList)=ws:=by
  rw[List.map_map]
  conv=>rhs;rw[<-List.map_id ws]
  rfl
 have hbk:b<w.heap.size:=by
  obtain⟨y,r,rfl⟩:=List.exists_cons_of_ne_nil h0
  have:=hcell 0 (bsO y) rfl
  unfold World.cell? at this
  rcases Nat.lt_or_ge b w.heap.size with h|h
  ·exact h
  have hnone:w.heap[b]? =none:=Array.getElem?_eq_none h
  simp[hnone] at this
 have hjl:=join_len ws 1000 hw
 have hc:=Tryz.strings_Join b off cap (ws.map bsO) (bsO [32]) w hcell hbk (by rw[zJ];omega) (by rw[zJ] at hcap ⊢;exact hcap) (by
  rw[hd]
  have:Lib.join ws (bsO [32]).data.toList=joinF ws:=join_lib ws
  rw[this]
  have:ws.length*(1000+1)<=1000*(1000+1):=Nat.mul_le_mul_right _ hn
  omega)
 rw[hd] at hc
 have hj:Lib.join ws (bsO [32]).data.toList=joinF ws:=join_lib ws
 rw[hj,zJ] at hc
 rw[zJ]
 refine Calls.mono hc ?_
 rintro e w' ⟨he,hB⟩
 exact⟨_,he,fin w' hB⟩
theorem join2_lib:∀ ws:List (List UInt8),Lib.join ws [59,32]=joinC ws
 | []=>rfl
 | w::r=>by
  rw[Lib.join_cons]
  simp only[Lib.joinTail,joinC,List.flatMap]
  rfl
theorem join2_ok:jl:=by
 intro ws hn hw
 refine⟨fun k hk=>?_,fun G w vs M hv=>.inl ?_⟩
 ·simp[DV.qT,DV.refs] at hk
 obtain⟨v,v2,rfl,h1,h2⟩:=hv.two
 have e2:=(qC h2).1
 subst e2
 simp only[qz,qN] at h1
 obtain⟨a,cap,rfl,hcap,hes⟩:=h1
 refine⟨Tryz.call169 _ _,?_⟩
 have fin:∀ w':World,Below w.heap.size w w'->∃ G',Stepped G w (qx []) (vS (bsO (joinC ws))) [] G' w' (.string (bsO (joinC ws))):=fun w' hB=>
  ⟨G,jS M.ctx hB.os hB.tape hB.output hB.size (fun k hk=>hB.block k hk) (qO Z) (by simp[DV.refs])⟩
 by_cases h0:ws=[]
 ·subst h0
  refine Calls.mono (Tryz.strings_Join_none a cap (bsO [59,32]) w) ?_
  rintro e w' ⟨he,hw'⟩
  exact⟨_,he,fin w' (hw'▸Below.refl _ _)⟩
 rcases hes with hes|⟨b,off,esz,rfl,hel⟩
 ·exact absurd (List.map_eq_nil_iff.1 hes) h0
 have hcell:∀ (j:Nat) (x:ByteArray),(ws.map bsO)[j]? =some x->w.cell? ⟨b,off+j,none⟩=some (.string x):=by
  intro j x hj
  rw[qf] at hj
  obtain⟨y,hy,rfl⟩:=Option.map_eq_some_iff.1 hj
  exact M.readable.1 _ _ _ (elems_cells ws off hel j y hy)
 have hd:(ws.map bsO).map (·.data.toList)=ws:=by
  rw[List.map_map]
  conv=>rhs;rw[<-List.map_id ws]
  rfl
 have hbk:b<w.heap.size:=by
  obtain⟨y,r,rfl⟩:=List.exists_cons_of_ne_nil h0
  have:=hcell 0 (bsO y) rfl
  unfold World.cell? at this
  rcases Nat.lt_or_ge b w.heap.size with h|h
  ·exact h
  have hnone:w.heap[b]? =none:=Array.getElem?_eq_none h
  simp[hnone] at this
 have hjl:=joinC_len 1000 ws hw
 have hc:=Tryz.strings_Join b off cap (ws.map bsO) (bsO [59,32]) w hcell hbk (by rw[zJ];omega) (by rw[zJ] at hcap ⊢;exact hcap) (by
  rw[hd]
  have:Lib.join ws (bsO [59,32]).data.toList=joinC ws:=join2_lib ws
  rw[this]
  have:ws.length*(1000+2)<=1000*(1000+2):=Nat.mul_le_mul_right _ hn
  omega)
 rw[hd] at hc
 have hj:Lib.join ws (bsO [59,32]).data.toList=joinC ws:=join2_lib ws
 rw[hj,zJ] at hc
 rw[zJ]
 refine Calls.mono hc ?_
 rintro e w' ⟨he,hB⟩
 exact⟨_,he,fin w' hB⟩
def VarLaid (n:String):Prop:=∃ g tp p T fr,Tryz.prog.globalNamed n=some g/\Lz.L g=some (.cells #[.iface tp p] T fr)
def je:Prop:=VarLaid "strconv.ErrSyntax" /\VarLaid "strconv.ErrRange"
theorem var_of {G:Gh} {w:World} {look:Nat->Option MO} (M:Z4 G look w) {n:String} (h:VarLaid n):∃ tp p,w.var? Tryz.prog n=some #[.iface tp p]:=by
 obtain⟨g,tp,p,T,fr,h1,h2⟩:=h
 obtain⟨_,h3⟩:=M.laid _ _ h2
 refine⟨tp,p,?_⟩
 unfold World.var?
 rw[h1]
 simp only[z6,h3]
theorem call_one {s:List UInt8} {val:DV} (hr:val.refs=[]) (h:∀ (G:Gh) (w:World),Z4 G (qx []) w->Calls Tryz.prog 256 #[.string (bsO s)] w fun e w'=>∃ r,e=.returned r/\Below w.heap.size w w'/\qz G (G.rd w') val r) :
  q6 Tryz.prog 256 [vS (bsO s)] (qx []) val []:=by
 refine⟨fun k hk=>?_,fun G w vs M hv=>.inl ?_⟩
 ·simp[DV.qT,DV.refs] at hk
 obtain⟨v,rfl,h1⟩:=hv.one
 have e1:=(qC h1).1
 subst e1
 refine⟨Tryz.call256 _ _,?_⟩
 refine Calls.mono (h G w M) ?_
 rintro e w' ⟨r,he,hB,hv⟩
 exact⟨r,he,G,jS M.ctx hB.os hB.tape hB.output hB.size (fun k hk=>hB.block k hk) hv hr⟩
theorem w256 (he:je) (s:List UInt8) (hl:s.length<=1000000) :
  (∃ v,R64 v/\intV s=(v,decide (0<=v/\v<=999999999/\Lib.itoa v=s))/\CKa 256 [vS (bsO s)] (.tup [vI v,.pv (.lit .nilIface)]))\/
  (∃ v Terr,R64 v/\intV s=(v,false)/\CKa 256 [vS (bsO s)] (.tup [vI v,.pv (.iface Terr .any)])):=by
 have hs:(bsO s).data.toList=s:=rfl
 have hsz:(bsO s).size=s.length:=rfl
 have two:∀ (G:Gh) (R:Rd) (v:Int) (x:PV) (u:Value),qN R x u->qz G R (.tup [vI v,.pv x]) (.tuple #[.int .i64 v,u]):=by
  intro G R v x u h
  simp only[qz,qD,qN]
  exact⟨#[.int .i64 v,u],rfl,_,_,rfl,⟨rfl,rfl⟩,_,_,rfl,h,rfl⟩
 have hit:∀ (R:Rd) (N:Nat),qN R (.iface 414 .any) (.iface 414 (.pointer (some ⟨N,0,none⟩))):=by
  intro R N
  simp only[qN]
  exact⟨_,rfl,rfl⟩
 by_cases hok:∃ v,Lib.atoiAll s=.ok v
 ·obtain⟨v,h⟩:=hok
  have hb:=Lib.atoiAll_bounds h
  refine .inl ⟨v,⟨by omega,by omega⟩,by unfold intV;rw[h],call_one (by simp[DV.refs,DV.qT]) fun G w M=>?_⟩
  refine Calls.mono (Tryz.strconv_Atoi_ok (bsO s) (by rw[hsz];omega) v h w) ?_
  rintro e w' ⟨rfl,hw⟩
  refine⟨_,rfl,?_,two _ _ _ _ _ (by unfold qN;exact⟨rfl,rfl⟩)⟩
  rcases hw with rfl|⟨t,rfl⟩
  ·exact Below.refl _ _
  exact Lib.bytesWorld_below w 5 t
 have hno:∀ v,Lib.atoiAll s≠.ok v:=fun v h=>hok ⟨v,h⟩
 by_cases hr:Lib.atoiAll s=.range
 ·have hb:=Lib.atoiSat_bounds s
  refine .inr ⟨Lib.atoiSat s,414,⟨by omega,by omega⟩,by unfold intV;rw[hr],call_one (by simp[DV.refs,DV.qT]) fun G w M=>?_⟩
  obtain⟨tp,p,hvar⟩:=var_of M he.2
  refine Calls.mono (Tryz.strconv_Atoi_range_var (bsO s) (by rw[hsz];omega) hr tp p w hvar) ?_
  rintro e w' ⟨N,rfl,_,_,hB⟩
  exact⟨_,rfl,hB,two _ _ _ _ _ (hit _ _)⟩
 refine .inr ⟨0,414,⟨by omega,by omega⟩,?_,call_one (by simp[DV.refs,DV.qT]) fun G w M=>?_⟩
 ·unfold intV
  split
  ·rename_i v h;exact absurd h (hno v)
  ·rename_i h;exact absurd h hr
  rfl
 obtain⟨tp,p,hvar⟩:=var_of M he.1
 refine Calls.mono (Tryz.strconv_Atoi_form_var (bsO s) (by rw[hsz];omega) hno hr tp p w hvar) ?_
 rintro e w' ⟨N,rfl,_,_,hB⟩
 exact⟨_,rfl,hB,two _ _ _ _ _ (hit _ _)⟩
end Go.Lens.Tm
end
section
namespace Go.Lens.Tm
open Go.Lens.Tb Go.Proofs
variable [Lz]
set_option maxHeartbeats 4000000
set_option maxRecDepth 100000
attribute [local irreducible] TK PK T RG EfR Body CG
theorem by116:ty116.info.bytes=40:=by kernel_rfl
theorem in116:tab.info? 116=some ty116.info:=by kernel_rfl
theorem un273:tab.underlying 273=some (.interface #[("Error",145)]):=by kernel_rfl
theorem un3:tab.underlying 3=some (.int (.i64)):=by kernel_rfl
theorem un5:tab.underlying 5=some (.int (.u8)):=by kernel_rfl
theorem w299 (n:Int) (hn0:0<=n) (hn1:n<=999999999):CKa 299 [vI n,vI 1] (vS (bsO (Lib.itoa n))):=by
 refine cG qf299 Z (nB Z) Z (l2 (fun (m:Int) (s:List UInt8)=>[(0,vI m),(1,vI 1),(5,vS (bsO s))]) (fun _ _=>[]) (fun m s=>DecI n m s) (fun m s=>Int.toNat m+(1-s.length)) n [] Z ?_ (sb Z Z Z) ?_)
 · exact decI_0 hn0
 intro m s hI0
 have hsl:=decI_len hI0 hn0 hn1
 have hrn:=decI_rng hI0
 refine Eg Z Z (fun hc=>B.move Z) Z (Eg Z Z (fun hc=>B.lenB (a:=s) (qy Z hc) un9) Z (Eg Z Z (fun hc=>B.move Z) Z (Eg Z Z (fun hc=>B.lss (qy Z hc) (qy Z hc)) Z (E Z (B.pick Z Z Z Z (gdB Z) (q7 _)) (Cb Z Z (fun h1=>?_) (fun h1=>?_))))))
 ·refine E Z (B.remN Z Z (by omega) (by decide)) (E Z (B.remN Z Z (by omega) (by decide)) (E Z (B.add Z Z (by have hz:=decI_rng hI0;unfold R64;omega)) (E Z (B.slMB (a:=[48,49,50,51,52,53,54,55,56,57]) (i:=(Int.toNat (m%10))) (j:=(Int.toNat ((m%10)+1))) Z Z Z un9 (Int.toNat_of_nonneg (by omega)).symm (Int.toNat_of_nonneg (by omega)).symm (by omega) (by (simp only[zb,zd];omega))) (E Z (B.catB (a:=(List.drop (Int.toNat (m%10)) (List.take (Int.toNat ((m%10)+1)) [48,49,50,51,52,53,54,55,56,57]))) (b:=s) Z Z (by simp only[za,zo,zn,zb,zd];omega)) (E Z (B.quoN Z Z (by omega) (by decide) (by have hz:=decI_rng hI0;unfold R64;omega)) (pk Z (L2 (m / 10) ((List.drop (Int.toNat (m%10)) (List.take (Int.toNat ((m%10)+1)) [48,49,50,51,52,53,54,55,56,57]))++s) ?_ ?_ (sb Z Z Z))))))))
  · exact decI_next hI0 h1
  · exact decI_less hI0 h1
 exact Rt Z (leaf (val0:=vS (bsO s)) (by kernel_rfl) (ls (by rw[decI_end hI0 h1])))
theorem w257 (l:List Int) (hl:l.length<=1) (hr:∀ x∈l,0<=x/\x<=999999999):CKa 257 [.pv (.agg [pB false,pL eI l])] (vS (bsO (txtF l))):=by
 refine cG qf257 Z (nB Z) Z (E Z (B.jh Z ku) (Cp Z Z (fun h1=>?_) (fun h1=>?_)))
 ·exact Rt Z (leaf (val0:=vS (bsO [48])) (by kernel_rfl) (ls (by (rw[txt_0 h1]))))
 have hr1:=hr _ (getD_mem (l:=l) (z:=0) (k:=l.length-1) (by omega))
 refine E Z (B.jh Z ku) (E Z (B.sub Z Z (by unfold R64;omega)) (E Z (B.idx (z:=0) (i:=(l.length-1)) Z Z ku sz3 (fun _=>rfl) (by omega) (by omega)) (C Z (w299 (l.getD (l.length-1) 0) (by omega) (by omega)) Z Z Z (E Z (B.jh Z ku) (E Z (B.sub Z Z (by unfold R64;omega)) (l1 (fun (i:Int)=>[(1,.bref 2 0),(3,vS (bsO (Lib.itoa (l.getD (l.length-1) 0)))),(4,vI i)]) (fun _=>[(2,.box 349 [vB false,vL eI l])]) (fun i=>i<0) (fun _=>(0:Nat)) ((l.length:Int)-2) Z ?_ (sb Z Z Z) ?_))))))
 · omega
 intro i hI0
 refine Cp Z Z (fun h2=>?_) (fun h2=>?_)
 ·exact absurd h2 (by omega)
 exact CF Z Z (Rt Z (leaf (val0:=vS (bsO (Lib.itoa (l.getD (l.length-1) 0)))) (by kernel_rfl) (ls (by (rw[txt_1 h1])))))
theorem w332 (l:List Int) (hl:l.length<=10000) (hz:∀ x∈l,x≠0):CKa 332 [vL eI l] (vL eI l):=by
 refine cG qf332 Z (nB Z) Z (E Z (B.j8 (enc:=eI) Z) (l1 (fun (q:List Int)=>[(0,vL eI q)]) (fun _=>[]) (fun q=>q=l) (fun _=>(0:Nat)) l Z ?_ (sb Z Z Z) ?_))
 · rfl
 intro q hI0
 subst hI0
 refine E Z (B.jh Z ku) (Eg Z Z (fun hc=>B.move Z) Z (Eg Z Z (fun hc=>B.move Z) Z (Eg Z Z (fun hc=>B.jh (qy Z hc) ku) Z (Eg Z Z (fun hc=>B.sub (qy Z hc) Z (by unfold R64;omega)) Z (Eg Z Z (fun hc=>B.idx (z:=0) (i:=(q.length-1)) (qy Z hc) (qy Z hc) ku sz3 (fun _=>rfl) (by have hc2:=of_decide_eq_true (eqt hc);omega) (by (have hc2:=of_decide_eq_true (eqt hc);omega))) Z (Eg Z Z (fun hc=>B.loadP (qy Z hc) ag3 sz3) Z (Eg Z Z (fun hc=>B.eql (qy Z hc) Z) Z (E Z (B.pick Z Z Z (gdB Z) Z (qJ _)) (Cb Z Z (fun h1=>?_) (fun h1=>?_))))))))))
 ·exact absurd (trim_no h1) (fun hh=>hz _ (getD_mem (by omega)) hh.2)
 exact Rt Z (leaf (val0:=vL eI q) (by kernel_rfl) (lsl (by rfl)))
theorem w300 (l:List Int) (hl:l.length<=10000) (hz:∀ x∈l,x≠0):CKa 300 [vB false,vL eI l] (.pv (.agg [pB false,pL eI l])):=by
 exact cG qf300 Z (nB Z) Z (E Z (B.jj Z (fun l=>Frz.boxN l Z) Z) (C Z (w332 l hl hz) Z Z Z (Eg Z Z (fun hc=>B.move Z) Z (Eg Z Z (fun hc=>B.jh (qy Z hc) ku) Z (Eg Z Z (fun hc=>B.gtr (qy Z hc) Z) Z (E Z (B.pick Z Z Z (gdB Z) Z (qJ _)) (Rt Z (leaf (val0:=.pv (.agg [pB (bif false then (decide (0<(l.length:Int))) else false),pL eI l])) (by kernel_rfl) (lag (q5 (plb (by rfl)) (q5 (rfl) Z)))))))))))
theorem w258 (n:Int) (hn0:0<=n) (hn1:n<=999999999):CKa 258 [vI n] (.pv (.agg [pB false,pL eI (wF n)])):=by
 refine cG qf258 Z (nB Z) Z (E Z (B.jj Z (fun l=>Frz.boxN l Z) Z) (E Z (B.adopt 4 1 3 Z Z) (l3 (fun (m:Int) (v:Nat) (out:List Int)=>[(0,vI m),(2,.bref 3 0),(3,.aref 4 v),(4,vB (decide (n<0)))]) (fun _ v out=>[(3,.box 349 [vB false,vL eI []]),(4,.arr v 1 3 (List.map eI out))]) (fun m _ out=>WhI n m out) (fun m _ _=>Int.toNat m) n 0 [] Z ?_ (sb Z Z Z) ?_)))
 · exact .inl ⟨rfl,rfl⟩
 intro m v out hI0
 have hwl:=whI_len hI0
 have hwr:=whI_rng hI0 hn0 hn1
 refine Cp Z Z (fun h1=>?_) (fun h1=>?_)
 ·refine E Z (B.remN Z Z (by omega) (by decide)) (Cp Z Z (fun h2=>?_) (fun h2=>?_))
  ·exact absurd h2 (by have hz:=whI_rng hI0 hn0 hn1;omega)
  refine E Z (B.jj (val:=.pv (.slice (List.map eI [(m%1000000000)]))) Z (fun l=>Frz.arr l _ _ _ _ _) Z) (E Z (B.append Z Z Z ku in3 Z (fun _=>rfl) by3 (by (simp only[za,zb,zd];omega))) (E Z (B.quoN Z Z (by omega) (by decide) (by have hz:=whI_rng hI0 hn0 hn1;unfold R64;omega)) (pk Z (L3 (m / 1000000000) (v+1) (out++[(m%1000000000)]) ?_ ?_ (sb Z Z Z)))))
  · exact whI_next hI0 hn0 hn1 h1
  · (have hz:=whI_rng hI0 hn0 hn1;omega)
 refine tk 9 Z ?_
 refine tn ⟨[(2,.bref 3 0),(3,.aref 4 v),(4,vB (decide (n<0)))],[(3,.box 349 [vB false,vL eI []]),(4,.arr v 1 3 (List.map eI out))]⟩ rfl rfl Z ?_
 have hou:=whI_end hI0 (by omega)
 rw[zk (show ¬n<0 by omega)]
 exact kc (Fz 9 3 Z Z Z (C Z (w300 out (by omega) (whI_nz hI0)) Z Z Z (Rt Z (leaf (val0:=.pv (.agg [pB false,pL eI out])) (by kernel_rfl) (lag (q5 (rfl) (q5 (plsl (by rw[hou])) rfl)))))))
theorem w187 (n:Int) (hn0:0<=n) (hn1:n<=999999999):CKa 187 [vI n] (vS (bsO (Lib.itoa n))):=by
 exact cG qf187 Z (nB Z) Z (C Z (w258 n hn0 hn1) Z Z Z (C Z (w257 (wF n) (wF_len n) (wF_rng hn0 hn1)) Z Z Z (Rt Z (leaf (val0:=vS (bsO (txtF (wF n)))) (by kernel_rfl) (ls (by rw[txt_w hn0]))))))
theorem w131 (n:Int) (hn0:0<=n) (hn1:n<=999999999):CKa 131 [vI n] (vS (bsO (Lib.itoa n))):=by
 exact cG qf131 Z (nB Z) Z (C Z (w187 n (by omega) (by omega)) Z Z Z (Rt Z (leaf Z Z)))
theorem w135 (s:List UInt8):CKa 135 [vS (bsO s)] (.tup [vI (Option.getD (intR s) 0),vB (Option.isSome (intR s))]):=by
 refine cG qf135 Z (nB Z) Z (E Z (B.lenB (a:=s) Z un9) (Eg Z Z (fun hc=>B.move Z) Z (Eg Z Z (fun hc=>B.lenB (a:=s) (qy Z hc) un9) Z (Eg Z Z (fun hc=>B.gtr (qy Z hc) Z) Z (E Z (B.pick Z Z Z Z (gdB Z) (q7 _)) (Eg Z Z (fun hc=>B.move Z) Z (Eg Z Z (fun hc=>B.lenB (a:=s) (qy Z hc) un9) Z (Eg Z Z (fun hc=>B.gtr (qy Z hc) Z) Z (Eg Z Z (fun hc=>B.move (qy Z hc)) Z (Eg Z Z (fun hc=>B.move Z) Z (Eg Z Z (fun hc=>B.sidx (i:=0) (qy Z hc) Z un9 Z (show 0<s.length from (by exact gd_len4 hc))) Z (Eg Z Z (fun hc=>B.eql (qy Z hc) Z) Z (Eg Z Z (fun hc=>B.pick (qy Z hc) Z Z (gdB Z) Z (kr hc)) Z ?_)))))))))))))
 refine E Z (B.pick Z Z Z Z (gdB Z) (q7 _)) (Cb Z Z (fun h1=>?_) (fun h1=>?_))
 ·exact Rt Z (leaf (val0:=.tup [vI 0,vB false]) (by kernel_rfl) (tup2 (li (by (rw[intR_no h1];rfl))) (lb (by (rw[intR_no h1];rfl)))))
 have hnl:=noI_len h1
 refine l2 (fun (k:Nat) (n:Int)=>[(0,vS (bsO s)),(4,vI n),(5,vI k)]) (fun _ _=>[]) (fun k n=>k<=s.length/\intG 0 s=intG n (List.drop k s)/\0<=n/\n<10 ^ k) (fun k _=>s.length-k) 0 0 Z ?_ (sb Z Z Z) ?_
 · exact⟨zq _,rfl,by omega,by decide⟩
 intro k n hI0
 have hpb:=pow_bd (k:=k) (by omega)
 have hn9:n<1000000000:=Int.lt_of_lt_of_le hI0.2.2.2 hpb
 refine E Z (B.lenB (a:=s) Z un9) (Cp Z Z (fun h2=>?_) (fun h2=>?_))
 ·refine E Z (B.sidx (i:=k) Z Z un9 Z (show k<s.length from (by omega))) (Eg Z Z (fun hc=>B.move Z) Z (Eg Z Z (fun hc=>B.move Z) Z (Eg Z Z (fun hc=>B.sidx (i:=k) (qy Z hc) (qy Z hc) un9 Z (show k<s.length from (by omega))) Z (Eg Z Z (fun hc=>B.gtr (qy Z hc) Z) Z (E Z (B.pick Z Z Z Z (gdB Z) (q7 _)) (Cb Z Z (fun h3=>?_) (fun h3=>?_)))))))
  ·exact Rt Z (leaf (val0:=.tup [vI 0,vB false]) (by kernel_rfl) (tup2 (li (by (rw[intR_go h1,hI0.2.1,intG_bad (by omega) h3];rfl))) (lb (by (rw[intR_go h1,hI0.2.1,intG_bad (by omega) h3];rfl)))))
  refine E Z (B.mul Z Z (by unfold R64;omega)) (E Z (B.sidx (i:=k) Z Z un9 Z (show k<s.length from (by omega))) (E Z (B.subB Z Z (by (have hdr:=dig_rng h3;omega))) (E Z (B.toI Z un5 un3 (by unfold R64;(have hdr:=dig_rng h3;omega)) Z) (E Z (B.add Z Z (by unfold R64;(have hdr:=dig_rng h3;omega))) (E Z (B.add Z Z (by unfold R64;omega)) (pk Z (L2 (k+1) ((10*n)+((byteAt (bsO s) k)-48)) ?_ ?_ (sb Z Z Z))))))))
  · (have hdr:=dig_rng h3;refine⟨by omega,hI0.2.1.trans (intG_step (by omega) h3),by omega,?_⟩;rw[pow_s];exact intB_next hI0.2.2.2 hdr.2)
  · omega
 exact Rt Z (leaf (val0:=.tup [vI n,vB true]) (by kernel_rfl) (tup2 (li (by (rw[intR_go h1,hI0.2.1,zN (by omega)];rfl))) (lb (by (rw[intR_go h1,hI0.2.1,zN (by omega)];rfl)))))
theorem w186o (hp:qH) (s:List UInt8) (v:Int) (hv:R64 v) (h256:CKa 256 [vS (bsO s)] (.tup [vI v,.pv (.lit .nilIface)])):CKa 186 [vS (bsO s)] (.tup [vI v,vB (decide (0<=v/\v<=999999999/\Lib.itoa v=s))]):=by
 exact cG qf186 Z (nB Z) Z (C Z (h256) Z Z Z (E Z (B.ieqE Z un273) (Eg Z Z (fun hc=>B.move Z) Z (Eg Z Z (fun hc=>B.geq (qy Z hc) Z) Z (E Z (B.pick Z Z Z (gdB Z) Z (qJ _)) (Eg Z Z (fun hc=>B.move Z) Z (Eg Z Z (fun hc=>B.leq (qy Z hc) Z) Z (E Z (B.pick Z Z Z (gdB Z) Z (qJ _)) (Eg Z Z (fun hc=>B.move Z) Z (Eg Z Z (fun hc=>B.call (w185 hp v hv) Z (ds1 (qy Z hc)) Z) Z (Eg Z Z (fun hc=>B.move Z) Z (Eg Z Z (fun hc=>B.seqB (a:=(Lib.itoa v)) (b:=s) (qy Z hc) (qy Z hc)) Z (E Z (B.pick Z Z Z (gdB Z) Z (qJ _)) (Rt Z (leaf (val0:=.tup [vI v,vB (bif (bif (bif true then (decide (0<=v)) else false) then (decide (v<=999999999)) else false) then (decide ((Lib.itoa v)=s)) else false)]) (by kernel_rfl) (tup2 (rfl) (lb (by exact int_chk))))))))))))))))))
theorem w186n (hp:qH) (s:List UInt8) (v:Int) (Terr:TypeId) (hv:R64 v) (h256:CKa 256 [vS (bsO s)] (.tup [vI v,.pv ((.iface Terr .any))])):CKa 186 [vS (bsO s)] (.tup [vI v,vB false]):=by
 exact cG qf186 Z (nB Z) Z (C Z (h256) Z Z Z (E Z (B.ieqN Z un273) (Eg Z Z (fun hc=>B.move Z) Z (Eg Z Z (fun hc=>B.geq (qy Z hc) Z) Z (E Z (B.pick Z Z Z (gdB Z) Z (qJ _)) (Eg Z Z (fun hc=>B.move Z) Z (Eg Z Z (fun hc=>B.leq (qy Z hc) Z) Z (E Z (B.pick Z Z Z (gdB Z) Z (qJ _)) (Eg Z Z (fun hc=>B.move Z) Z (Eg Z Z (fun hc=>B.call (w185 hp v hv) Z (ds1 (qy Z hc)) Z) Z (Eg Z Z (fun hc=>B.move Z) Z (Eg Z Z (fun hc=>B.seqB (a:=(Lib.itoa v)) (b:=s) (qy Z hc) (qy Z hc)) Z (E Z (B.pick Z Z Z (gdB Z) Z (qJ _)) (Rt Z (leaf (val0:=.tup [vI v,vB (bif (bif (bif false then (decide (0<=v)) else false) then (decide (v<=999999999)) else false) then (decide ((Lib.itoa v)=s)) else false)]) (by kernel_rfl) (tup2 (rfl) (lb (by rfl))))))))))))))))))
theorem w186 (hp:qH) (he:je) (s:List UInt8) (hl:s.length<=1000000):CKa 186 [vS (bsO s)] (.tup [vI (intV s).1,vB (intV s).2]):=by
 rcases w256 he s hl with ⟨v,hv,e,h⟩|⟨v,Terr,hv,e,h⟩
 ·rw[e];exact w186o hp s v hv h
 rw[e];exact w186n hp s v Terr hv h
theorem w133 (s:List UInt8) (c:UInt8) (hl:s.length<=1000000):CKa 133 [vS (bsO s),.pv (.lit (.int .u8 ((UInt8.toNat c:Nat):Int)))] (vL eN (ZO c s)):=by
 refine cG qf133 Z (nB Z) Z (E Z (B.j8 (enc:=eN) Z) (E Z (B.adopt 6 1 9 Z Z) (l4 (fun (i:Nat) (f:Nat) (v:Nat) (out:List (List UInt8))=>[(0,vS (bsO s)),(1,.pv (.lit (.int .u8 ((UInt8.toNat c:Nat):Int)))),(5,.aref 6 v),(6,vI f),(7,vI i)]) (fun _ _ v out=>[(6,.arr v 1 9 (List.map eN out))]) (fun i f _ out=>SpcI c s i f out) (fun i _ _ _=>s.length+1-i) 0 0 0 [] Z ?_ (sb Z Z Z) ?_)))
 · exact spcI0 s
 intro i f v out hI0
 refine E Z (B.lenB (a:=s) Z un9) (Cp Z Z (fun h1=>?_) (fun h1=>?_))
 ·have hsp:=spc_at hI0 h1
  refine E Z (B.lenB (a:=s) Z un9) (Eg Z Z (fun hc=>B.move Z) Z (Eg Z Z (fun hc=>B.move Z) Z (Eg Z Z (fun hc=>B.sidx (i:=i) (qy Z hc) (qy Z hc) un9 Z (show i<s.length from (by (have hc2:=hc;simp at hc2;omega)))) Z (Eg Z Z (fun hc=>B.move Z) Z (Eg Z Z (fun hc=>B.eql (qy Z hc) (qy Z hc)) Z (E Z (B.pick Z Z Z Z (gdB Z) (q7 _)) (Cb Z Z (fun h2=>?_) (fun h2=>?_))))))))
  ·refine E Z (B.slMB (a:=s) (i:=f) (j:=i) Z Z Z un9 Z Z (by omega) (by omega)) (E Z (B.jj (val:=.pv (.slice (List.map eN [(List.drop f (List.take i s))]))) Z (fun l=>Frz.arr l _ _ _ _ _) Z) (E Z (B.append Z Z Z ji in9 Z (fun _=>rfl) by9 (by (simp only[za,zb,zd,zn,zo];omega))) (E Z (B.add Z Z (by unfold R64;omega)) (E Z (B.add Z Z (by unfold R64;omega)) (pk Z (L4 (i+1) (i+1) (v+1) (out++[(List.drop f (List.take i s))]) ?_ ?_ (sb Z Z Z)))))))
   · exact spc_stepY hI0 h1 h2
   · omega
  refine E Z (B.add Z Z (by unfold R64;omega)) (pk Z (L4 (i+1) f v out ?_ ?_ (sb Z Z Z)))
  · exact spc_stepN hI0 h1 h2
  · omega
 exact Fz 9 5 Z Z Z (Rt Z (leaf (val0:=vL eN out) (by kernel_rfl) (lsl (by exact spc_out hI0 h1))))
theorem w132 (l:List (List UInt8)) (hl:l.length<=2000000):CKa 132 [vL eN l] (vL eN (fullW l)):=by
 refine cG qf132 Z (nB Z) Z ?_
 have hsl:=zz l.length
 refine E Z (B.j8 (enc:=eN) Z) (E Z (B.adopt 4 1 9 Z Z) (l3 (fun (k:Nat) (v:Nat) (out:List (List UInt8))=>[(0,vL eN l),(3,.aref 4 v),(4,vI k)]) (fun _ v out=>[(4,.arr v 1 9 (List.map eN out))]) (fun k _ out=>k<=l.length/\out.length<=k/\out=fullW (List.take k l)) (fun k _ _=>l.length-k) 0 0 [] Z ?_ (sb Z Z Z) ?_))
 · exact⟨zq _,zq _,rfl⟩
 intro k v out hI0
 refine E Z (B.jh Z ji) (Cp Z Z (fun h1=>?_) (fun h1=>?_))
 ·refine E Z (B.idx (z:=[]) (i:=k) Z Z ji sz9 (fun _=>rfl) Z (by omega)) (E Z (B.sneB (a:=(l.getD k [])) (b:=[]) Z Z) (Cp Z Z (fun h2=>?_) (fun h2=>?_)))
  ·refine E Z (B.idx (z:=[]) (i:=k) Z Z ji sz9 (fun _=>rfl) Z (by omega)) (E Z (B.jj (val:=.pv (.slice (List.map eN [(l.getD k [])]))) Z (fun l=>Frz.arr l _ _ _ _ _) Z) (E Z (B.append Z Z Z ji in9 Z (fun _=>rfl) by9 (by (simp only[za,zb,zd];omega))) (E Z (B.add Z Z (by unfold R64;omega)) (pk Z (L3 (k+1) (v+1) (out++[(l.getD k [])]) ?_ ?_ (sb Z Z Z))))))
   ·
     refine⟨by omega,by (simp only[za,zb,zd];omega),?_⟩;rw[fullW_take (by omega),if_pos (by assumption),hI0.2.2]
   · omega
  refine E Z (B.add Z Z (by unfold R64;omega)) (pk Z (L3 (k+1) v out ?_ ?_ (sb Z Z Z)))
  ·
    refine⟨by omega,by omega,?_⟩;rw[fullW_take (by omega),if_neg (by assumption),hI0.2.2]
  · omega
 exact Fz 7 3 Z Z Z (Rt Z (leaf (val0:=vL eN out) (by kernel_rfl) (lsl (by rw[hI0.2.2,zx (by omega)]))))
theorem w128 (hp:qH) (s:List UInt8) (hl:s.length<=1000000):CKa 128 [vS (bsO s)] (vL eN (qK s)):=by
 refine cG qf128 Z (nB Z) Z ?_
 have hsl:=splS_len s
 refine E Z (B.j8 (enc:=eN) Z) (E Z (B.adopt 4 1 9 Z Z) (C Z (w116 hp s hl) Z Z Z (E Z (B.jh Z ji) (l3 (fun (k:Nat) (v:Nat) (out:List (List UInt8))=>[(3,.aref 4 v),(7,vL eN (jZ s)),(8,vI ((List.length (jZ s):Nat):Int)),(9,vI k)]) (fun _ v out=>[(4,.arr v 1 9 (List.map eN out))]) (fun k _ out=>k<=List.length (jZ s)/\out.length<=k/\out=fullW (List.take k (jZ s))) (fun k _ _=>List.length (jZ s)-k) 0 0 [] Z ?_ (sb Z Z Z) ?_))))
 · exact⟨zq _,zq _,rfl⟩
 intro k v out hI0
 refine Cp Z Z (fun h1=>?_) (fun h1=>?_)
 ·refine E Z (B.idx (z:=[]) (i:=k) Z Z ji sz9 (fun _=>rfl) Z (by omega)) (E Z (B.sneB (a:=(List.getD (jZ s) k [])) (b:=[]) Z Z) (Cp Z Z (fun h2=>?_) (fun h2=>?_)))
  ·refine E Z (B.jj (val:=.pv (.slice (List.map eN [(List.getD (jZ s) k [])]))) Z (fun l=>Frz.arr l _ _ _ _ _) Z) (E Z (B.append Z Z Z ji in9 Z (fun _=>rfl) by9 (by (simp only[za,zb,zd];omega))) (E Z (B.add Z Z (by unfold R64;omega)) (pk Z (L3 (k+1) (v+1) (out++[(List.getD (jZ s) k [])]) ?_ ?_ (sb Z Z Z)))))
   ·
     refine⟨by omega,by (simp only[za,zb,zd];omega),?_⟩;rw[fullW_take (by omega),if_pos (by assumption),hI0.2.2]
   · omega
  refine E Z (B.add Z Z (by unfold R64;omega)) (pk Z (L3 (k+1) v out ?_ ?_ (sb Z Z Z)))
  ·
    refine⟨by omega,by omega,?_⟩;rw[fullW_take (by omega),if_neg (by assumption),hI0.2.2]
  · omega
 exact Fz 8 3 Z Z Z (Rt Z (leaf (val0:=vL eN out) (by kernel_rfl) (lsl (by rw[hI0.2.2,zx (by omega)];rfl))))
theorem w132w (s:List UInt8) (hl:s.length<=1000000):CKa 132 [vL eN (jZ s)] (vL eN (qK s)):=w132 (jZ s) (by have:=splS_len s;omega)
theorem w133s (s:List UInt8) (hl:s.length<=1000000):CKa 133 [vS (bsO s),.pv (.lit (.int .u8 32))] (vL eN (jZ s)):=by
 have:=w133 s 32 hl
 rwa [splC_32] at this
theorem w133c (s:List UInt8) (hl:s.length<=1000000):CKa 133 [vS (bsO s),.pv (.lit (.int .u8 59))] (vL eN (ZO 59 s)):=w133 s 59 hl
theorem w170c (hp:qH) (s:List UInt8) (c:UInt8) (hl:s.length<=1000000):CKa 170 [vS (bsO s),vS (bsO [c]),vI 0,vI (-1)] (vL eN (ZO c s)):=by
 refine cG qf170 Z (nB Z) Z (E Z (B.j8 (enc:=eN) Z) (CF Z Z (E Z (B.seqB (a:=[c]) (b:=[]) Z Z) (CF Z Z (CT Z Z ?_)))))
 have hcl:List.count c s<=s.length:=List.count_le_length
 refine C Z (w244 hp s c (by omega)) Z Z Z (E Z (B.add Z Z (by unfold R64;omega)) (E Z (B.lenB (a:=s) Z un9) (E Z (B.add Z Z (by unfold R64;omega)) (E Z (B.min Z Z) ?_))))
 refine tk 8 Z ?_
 refine tn ⟨[(0,vS (bsO s)),(1,vS (bsO [c])),(2,vI 0),(3,vI (min (((List.count c s:Nat):Int)+1) ((s.length:Int)+1)))],[]⟩ rfl rfl Z ?_
 obtain⟨n2,hn2⟩:∃ n2,n2=List.count c s+1:=⟨_,rfl⟩
 rw[show (min (((List.count c s:Nat):Int)+1) ((s.length:Int)+1))=(n2:Int) by omega]
 refine kc (E Z (B.makeSl (enc:=eN) (sz:=1) (z0:=[]) (n:=n2) (m:=n2) Z Z Z ji in9 Z Z Z by9 (by omega) Z Z) (E Z (B.sub Z Z (by unfold R64;omega)) (l3 (fun (i:Nat) (a:List (List UInt8)) (q:List UInt8)=>[(0,vS (bsO q)),(1,vS (bsO [c])),(2,vI 0),(3,vI ((n2:Int)-1)),(9,.aref 32 0),(10,vI i)]) (fun _ a _=>[(32,.arr 0 1 9 (List.map eN a))]) (fun i a q=>GsC c s n2 i a q) (fun i _ _=>n2-i) 0 (List.replicate n2 []) s Z ?_ (sb Z Z Z) ?_)))
 · exact⟨qe,zz _,by omega,by simp⟩
 intro i a q hI0
 have hal:=hI0.1
 have hil:=hI0.2.2.1
 refine Cp Z Z (fun h1=>?_) (fun h1=>?_)
 ·have hql:=hI0.2.1
  refine C Z (w245 hp q c (by omega)) Z Z Z (Cp Z Z (fun h2=>?_) (fun h2=>?_))
  ·have hal:=hI0.1
   have hil:=hI0.2.2.1
   exact E Z (B.idxE (n:=i) Z Z Z ji sz9 Z (by omega)) (E Z (B.setE (z0:=q) Z Z Z Z Z sz9 (by omega) (fun _=>rfl)) (Fz 18 9 Z Z Z (E Z (B.add Z Z (by unfold R64;omega)) (E Z (B.slT (j:=(i+1)) Z Z ji sz9 (by omega) (by (simp only[List.length_set];omega))) (Rt Z (leaf (val0:=vL eN (List.take (i+1) (List.set a i q))) (by kernel_rfl) (lsl (by exact gsc_end hI0 (ix_neg (by assumption))))))))))
  refine tk 14 Z ?_
  refine tn ⟨[(0,vS (bsO q)),(1,vS (bsO [c])),(2,vI 0),(3,vI ((n2:Int)-1)),(9,.aref 32 0),(10,vI i),(11,vI (Lib.indexByte q c))],[(32,.arr 0 1 9 (List.map eN a))]⟩ rfl rfl Z ?_
  obtain⟨m,hm,hmq,hm2,hm3⟩:=ix_nat (show 0<=Lib.indexByte q c by omega)
  rw[hm]
  refine kc (E Z (B.add Z Z (by unfold R64;omega)) (E Z (B.slHB (a:=q) (j:=(Int.toNat ((m:Int)+0))) Z Z un9 (Int.toNat_of_nonneg (by omega)).symm (by omega)) (E Z (B.idxE (n:=i) Z Z Z ji sz9 Z (by omega)) (E Z (B.setE (z0:=(List.take (Int.toNat ((m:Int)+0)) q)) Z Z Z Z Z sz9 (by omega) (fun _=>rfl)) (E Z (B.lenB1 (c:=c) Z un9) (E Z (B.add Z Z (by unfold R64;omega)) (E Z (B.slLB (a:=q) (i:=(m+1)) Z Z un9 (by omega) (by omega)) (E Z (B.add Z Z (by unfold R64;omega)) (pk Z (L3 (i+1) (List.set a i (List.take (Int.toNat ((m:Int)+0)) q)) (List.drop (m+1) q) ?_ ?_ (sb Z Z Z)))))))))))
  · exact gsc_step hI0 hm hmq hm2 hm3
  · omega
 have hal:=hI0.1
 have hil:=hI0.2.2.1
 exact E Z (B.idxE (n:=i) Z Z Z ji sz9 Z (by omega)) (E Z (B.setE (z0:=q) Z Z Z Z Z sz9 (by omega) (fun _=>rfl)) (Fz 18 9 Z Z Z (E Z (B.add Z Z (by unfold R64;omega)) (E Z (B.slT (j:=(i+1)) Z Z ji sz9 (by omega) (by (simp only[List.length_set];omega))) (Rt Z (leaf (val0:=vL eN (List.take (i+1) (List.set a i q))) (by kernel_rfl) (lsl (by exact gsc_end hI0 (gsc_no hI0 (by assumption))))))))))
theorem w116c (hp:qH) (s:List UInt8) (c:UInt8) (hl:s.length<=1000000):CKa 116 [vS (bsO s),vS (bsO [c])] (vL eN (ZO c s)):=by
 exact cG qf116 Z (nB Z) Z (E Z (B.j8 (enc:=eN) Z) (C Z (w170c hp s c hl) Z Z Z (Rt Z (leaf Z Z))))
theorem w129 (hp:qH) (he:je) (s:List UInt8) (hl:s.length<=1000000):CKa 129 [vS (bsO s)] (.tup [.pv (gC (ZP s).1),vB (ZP s).2]):=by
 refine cG qf129 Z (nB Z) Z (C Z (w128 hp s (by omega)) Z Z Z (E Z (B.jh Z ji) (Cp Z Z (fun h1=>?_) (fun h1=>?_))))
 ·exact Rt Z (leaf (val0:=.tup [.pv (.agg [pS (bsO []),pS (bsO []),pI 0]),vB false]) (by kernel_rfl) (tup2 (lag (q5 (pls (by rw[cv_0 h1])) (q5 (pls (by rw[cv_0 h1])) (q5 (pli (by rw[cv_0 h1])) rfl)))) (lb (by rw[cv_0 h1]))))
 refine E Z (B.idx (z:=[]) (i:=0) Z Z ji sz9 (fun _=>rfl) Z (by omega)) (E Z (B.seqB (a:=(List.getD (qK s) 0 [])) (b:=[101,110,100]) Z Z) (Eg Z Z (fun hc=>B.move Z) Z (Eg Z Z (fun hc=>B.jh (qy Z hc) ji) Z (Eg Z Z (fun hc=>B.eql (qy Z hc) Z) Z (E Z (B.pick Z Z Z (gdB Z) Z (qJ _)) (Cb Z Z (fun h2=>?_) (fun h2=>?_)))))))
 ·exact Rt Z (leaf (val0:=.tup [.pv (.agg [pS (bsO (List.getD (qK s) 0 [])),pS (bsO []),pI 0]),vB true]) (by kernel_rfl) (tup2 (lag (q5 (pls (by rw[cv_E h1 h2])) (q5 (pls (by rw[cv_E h1 h2])) (q5 (pli (by rw[cv_E h1 h2])) rfl)))) (lb (by rw[cv_E h1 h2]))))
 refine E Z (B.seqB (a:=(List.getD (qK s) 0 [])) (b:=[97,99,116]) Z Z) (Eg Z Z (fun hc=>B.move Z) Z (Eg Z Z (fun hc=>B.jh (qy Z hc) ji) Z (Eg Z Z (fun hc=>B.eql (qy Z hc) Z) Z (E Z (B.pick Z Z Z (gdB Z) Z (qJ _)) (Cb Z Z (fun h3=>?_) (fun h3=>?_))))))
 ·have hw2:=cv_two2 h3
  exact E Z (B.idx (z:=[]) (i:=1) Z Z ji sz9 (fun _=>rfl) Z (by omega)) (Rt Z (leaf (val0:=.tup [.pv (.agg [pS (bsO (List.getD (qK s) 0 [])),pS (bsO (List.getD (qK s) 1 [])),pI 0]),vB true]) (by kernel_rfl) (tup2 (lag (q5 (pls (by rw[cv_A h1 h2 h3])) (q5 (pls (by rw[cv_A h1 h2 h3])) (q5 (pli (by rw[cv_A h1 h2 h3])) rfl)))) (lb (by rw[cv_A h1 h2 h3])))))
 refine E Z (B.seqB (a:=(List.getD (qK s) 0 [])) (b:=[119,97,105,116]) Z Z) (Eg Z Z (fun hc=>B.Z9 Z fa116_0 Z) Z (Eg Z Z (fun hc=>B.jP (qy Z hc) Z Z ag9 sz9 Z) Z (Eg Z Z (fun hc=>B.seqB (a:=(List.getD (qK s) 0 [])) (b:=[114,101,112,101,97,116]) (qy Z hc) Z) Z (E Z (B.pick Z Z Z Z (gdB Z) (q7 _)) (Eg Z Z (fun hc=>B.move Z) Z (Eg Z Z (fun hc=>B.jh (qy Z hc) ji) Z (Eg Z Z (fun hc=>B.eql (qy Z hc) Z) Z (E Z (B.pick Z Z Z (gdB Z) Z (qJ _)) (Cb Z Z (fun h4=>?_) (fun h4=>?_))))))))))
 ·have hw2:=cv_two h4
  have hwm:=wordsP_mem (getD_mem (l:=qK s) (k:=1) (z:=[]) (by omega))
  exact E Z (B.idx (z:=[]) (i:=1) Z Z ji sz9 (fun _=>rfl) Z (by omega)) (C Z (w186 hp he (List.getD (qK s) 1 []) (by omega)) Z Z Z (Rt Z (leaf (val0:=.tup [.pv (.agg [pS (bsO (List.getD (qK s) 0 [])),pS (bsO []),pI (intV (List.getD (qK s) 1 [])).1]),vB (intV (List.getD (qK s) 1 [])).2]) (by kernel_rfl) (tup2 (lag (q5 (pls (by rw[cv_I h1 h2 h3 h4])) (q5 (pls (by rw[cv_I h1 h2 h3 h4])) (q5 (pli (by rw[cv_I h1 h2 h3 h4])) rfl)))) (lb (by rw[cv_I h1 h2 h3 h4]))))))
 exact Rt Z (leaf (val0:=.tup [.pv (.agg [pS (bsO (List.getD (qK s) 0 [])),pS (bsO []),pI 0]),vB false]) (by kernel_rfl) (tup2 (lag (q5 (pls (by rw[cv_N h1 h2 h3 h4])) (q5 (pls (by rw[cv_N h1 h2 h3 h4])) (q5 (pli (by rw[cv_N h1 h2 h3 h4])) rfl)))) (lb (by rw[cv_N h1 h2 h3 h4]))))
theorem w55 (hp:qH) (he:je) (s:List UInt8) (hl:s.length<=1000000):CKa 55 [vS (bsO s)] (.tup [vL eC (qY ZP s).1,vI (qY ZP s).2.1,vI (qY ZP s).2.2]):=by
 refine cG qf55 Z (nB Z) Z ?_
 have hPl:=splC_len 59 s
 refine E Z (B.j8 (enc:=eC) Z) (E Z (B.lenB (a:=s) Z un9) (Cp Z Z (fun h1=>?_) (fun h1=>?_)))
 ·exact E Z (B.j8 (enc:=eC) Z) (Rt Z (leaf (val0:=.tup [vL eC [],vI 0,vI 26]) (by kernel_rfl) (tup3 (lsl (by rw[kY h1])) (li (by rw[kY h1])) (li (by rw[kY h1])))))
 refine C Z (w128 hp s (by omega)) Z Z Z (E Z (B.jh Z ji) (Cp Z Z (fun h2=>?_) (fun h2=>?_)))
 ·exact E Z (B.j8 (enc:=eC) Z) (Rt Z (leaf (val0:=.tup [vL eC [],vI 0,vI 0]) (by kernel_rfl) (tup3 (lsl (by rw[Zb h1 h2])) (li (by rw[Zb h1 h2])) (li (by rw[Zb h1 h2])))))
 refine E Z (B.adopt 6 3 116 Z Z) (C Z (w116c hp s 59 (by omega)) Z Z Z (E Z (B.jh Z ji) (l3 (fun (k:Nat) (v:Nat) (out:List Cmd)=>[(5,.aref 6 v),(19,vL eN (ZO 59 s)),(20,vI ((List.length (ZO 59 s):Nat):Int)),(21,vI k)]) (fun _ v out=>[(6,.arr v 3 116 (List.map eC out))]) (fun k _ out=>k<=List.length (ZO 59 s)/\out.length<=k/\qY ZP s=parG ZP (List.drop k (ZO 59 s)) k out) (fun k _ _=>List.length (ZO 59 s)-k) 0 0 [] Z ?_ (sb Z Z Z) ?_)))
 · exact⟨zq _,zq _,parScr_go h1 h2⟩
 intro k v out hI0
 refine Cp Z Z (fun h3=>?_) (fun h3=>?_)
 ·refine E Z (B.idx (z:=[]) (i:=k) Z Z ji sz9 (fun _=>rfl) Z (by omega)) ?_
  have hpm:=splC_mem (getD_mem (l:=ZO 59 s) (k:=k) (z:=[]) (by omega))
  refine C Z (w129 hp he (List.getD (ZO 59 s) k []) (by omega)) Z Z Z (Cb Z Z (fun h4=>?_) (fun h4=>?_))
  ·exact E Z (B.add Z Z (by unfold R64;omega)) (E Z (B.j8 (enc:=eC) Z) (Rt Z (leaf (val0:=.tup [vL eC [],vI ((k:Int)+1),vI 25]) (by kernel_rfl) (tup3 (lsl (by rw[hI0.2.2,parG_no (by omega) (bnot_t h4)])) (li (by rw[hI0.2.2,parG_no (by omega) (bnot_t h4)])) (li (by rw[hI0.2.2,parG_no (by omega) (bnot_t h4)]))))))
  refine E Z (B.jj (val:=.pv (.slice (List.map eC [(ZP (List.getD (ZO 59 s) k [])).1]))) Z (fun l=>Frz.arr l _ _ _ _ _) Z) (E Z (B.append Z Z Z un82 in116 Z (fun _=>rfl) by116 (by (simp only[za,zb,zd];omega))) (E Z (B.add Z Z (by unfold R64;omega)) (pk Z (L3 (k+1) (v+1) (out++[(ZP (List.getD (ZO 59 s) k [])).1]) ?_ ?_ (sb Z Z Z)))))
  · (exact⟨by omega,by (simp only[za,zb,zd];omega),hI0.2.2.trans (parG_go (by omega) (bnot_f h4))⟩)
  · omega
 refine Fz 14 5 Z Z Z (C Z (w59 out (by omega)) Z Z Z (Cp Z Z (fun h5=>?_) (fun h5=>?_)))
 ·exact E Z (B.j8 (enc:=eC) Z) (Rt Z (leaf (val0:=.tup [vL eC [],vI 0,vI (chkS out)]) (by kernel_rfl) (tup3 (lsl (by rw[hI0.2.2,parG_bad (by omega) h5])) (li (by rw[hI0.2.2,parG_bad (by omega) h5])) (li (by rw[hI0.2.2,parG_bad (by omega) h5])))))
 exact Rt Z (leaf (val0:=.tup [vL eC out,vI 0,vI 0]) (by kernel_rfl) (tup3 (lsl (by rw[hI0.2.2,parG_end (by omega) h5])) (li (by rw[hI0.2.2,parG_end (by omega) h5])) (li (by rw[hI0.2.2,parG_end (by omega) h5]))))
theorem w58 (s:List UInt8) (hl:s.length<=1000000):CKa 58 [vS (bsO s)] (.tup [vL eC (qY ZE s).1,vI (qY ZE s).2.1,vI (qY ZE s).2.2]):=by
 refine cG qf58 Z (nB Z) Z ?_
 have hPl:=splC_len 59 s
 refine E Z (B.j8 (enc:=eC) Z) (E Z (B.lenB (a:=s) Z un9) (Cp Z Z (fun h1=>?_) (fun h1=>?_)))
 ·exact E Z (B.j8 (enc:=eC) Z) (Rt Z (leaf (val0:=.tup [vL eC [],vI 0,vI 26]) (by kernel_rfl) (tup3 (lsl (by rw[kY h1])) (li (by rw[kY h1])) (li (by rw[kY h1])))))
 refine C Z (w133s s (by omega)) Z Z Z (C Z (w132w s (by omega)) Z Z Z (E Z (B.jh Z ji) (Cp Z Z (fun h2=>?_) (fun h2=>?_))))
 ·exact E Z (B.j8 (enc:=eC) Z) (Rt Z (leaf (val0:=.tup [vL eC [],vI 0,vI 0]) (by kernel_rfl) (tup3 (lsl (by rw[Zb h1 h2])) (li (by rw[Zb h1 h2])) (li (by rw[Zb h1 h2])))))
 refine C Z (w133c s (by omega)) Z Z Z (E Z (B.adopt 7 3 115 Z Z) (l3 (fun (k:Nat) (v:Nat) (out:List Cmd)=>[(5,vL eN (ZO 59 s)),(6,.aref 7 v),(7,vI k)]) (fun _ v out=>[(7,.arr v 3 115 (List.map eC out))]) (fun k _ out=>k<=List.length (ZO 59 s)/\out.length<=k/\qY ZE s=parG ZE (List.drop k (ZO 59 s)) k out) (fun k _ _=>List.length (ZO 59 s)-k) 0 0 [] Z ?_ (sb Z Z Z) ?_))
 · exact⟨zq _,zq _,parScr_go h1 h2⟩
 intro k v out hI0
 refine E Z (B.jh Z ji) (Cp Z Z (fun h3=>?_) (fun h3=>?_))
 ·have hpm:=splC_mem (getD_mem (l:=ZO 59 s) (k:=k) (z:=[]) (by omega))
  refine E Z (B.idx (z:=[]) (i:=k) Z Z ji sz9 (fun _=>rfl) Z (by omega)) (C Z (w133s (List.getD (ZO 59 s) k []) (by omega)) Z Z Z (C Z (w132w (List.getD (ZO 59 s) k []) (by omega)) Z Z Z (E Z (B.jh Z ji) (Eg Z Z (fun hc=>B.move Z) Z (Eg Z Z (fun hc=>B.idx (z:=[]) (i:=0) (qy Z hc) Z ji sz9 (fun _=>rfl) Z (by exact gd_len1 hc)) Z (Eg Z Z (fun hc=>B.loadP (qy Z hc) ag9 sz9) Z (Eg Z Z (fun hc=>B.call (w134 (List.getD (qK (List.getD (ZO 59 s) k [])) 0 [])) Z (ds1 (qy Z hc)) Z) Z (Eg Z Z (fun hc=>B.eql (qy Z hc) Z) Z (E Z (B.pick Z Z Z Z (gdB Z) (q7 _)) (Eg Z Z (fun hc=>B.move Z) Z (Eg Z Z (fun hc=>B.jh (qy Z hc) ji) Z (Eg Z Z (fun hc=>B.move Z) Z (Eg Z Z (fun hc=>B.idx (z:=[]) (i:=0) (qy Z hc) Z ji sz9 (fun _=>rfl) Z (by exact gd_len2 hc)) Z ?_)))))))))))))
  refine Eg Z Z (fun hc=>B.loadP (qy Z hc) ag9 sz9) Z (Eg Z Z (fun hc=>B.call (w134 (List.getD (qK (List.getD (ZO 59 s) k [])) 0 [])) Z (ds1 (qy Z hc)) Z) Z (Eg Z Z (fun hc=>B.neq (qy Z hc) (qy Z hc)) Z (E Z (B.pick Z Z Z Z (gdB Z) (q7 _)) (Cb Z Z (fun h4=>?_) (fun h4=>?_)))))
  ·exact E Z (B.add Z Z (by unfold R64;omega)) (E Z (B.j8 (enc:=eC) Z) (Rt Z (leaf (val0:=.tup [vL eC [],vI ((k:Int)+1),vI 25]) (by kernel_rfl) (tup3 (lsl (by rw[hI0.2.2,parG_no (by omega) (cr_B h4)])) (li (by rw[hI0.2.2,parG_no (by omega) (cr_B h4)])) (li (by rw[hI0.2.2,parG_no (by omega) (cr_B h4)]))))))
  have hw0:=badR_pos h4
  refine E Z (B.idx (z:=[]) (i:=0) Z Z ji sz9 (fun _=>rfl) Z (by omega)) (E Z (B.seqB (a:=(List.getD (qK (List.getD (ZO 59 s) k [])) 0 [])) (b:=[97,99,116]) Z Z) (Cp Z Z (fun h5=>?_) (fun h5=>?_)))
  ·have hw2:=badR_act h4 h5
   refine E Z (B.idx (z:=[]) (i:=1) Z Z ji sz9 (fun _=>rfl) Z (by omega)) (E Z (B.jj (val:=.pv (.slice (List.map eC [((List.getD (qK (List.getD (ZO 59 s) k [])) 0 []),(List.getD (qK (List.getD (ZO 59 s) k [])) 1 []),0)]))) Z (fun l=>Frz.arr l _ _ _ _ _) Z) (E Z (B.append Z Z Z un83 in115 Z (fun _=>rfl) by115 (by (simp only[za,zb,zd];omega))) (E Z (B.add Z Z (by unfold R64;omega)) (pk Z (L3 (k+1) (v+1) (out++[((List.getD (qK (List.getD (ZO 59 s) k [])) 0 []),(List.getD (qK (List.getD (ZO 59 s) k [])) 1 []),0)]) ?_ ?_ (sb Z Z Z))))))
   · (refine⟨by omega,by (simp only[za,zb,zd];omega),hI0.2.2.trans ?_⟩;exact parG_at (by omega) (cr_A h4 h5))
   · omega
  refine E Z (B.jh Z ji) (Cp Z Z (fun h6=>?_) (fun h6=>?_))
  ·refine E Z (B.idx (z:=[]) (i:=1) Z Z ji sz9 (fun _=>rfl) Z (by omega)) (C Z (w135 (List.getD (qK (List.getD (ZO 59 s) k [])) 1 [])) Z Z Z (Cb Z Z (fun h7=>?_) (fun h7=>?_)))
   ·exact E Z (B.add Z Z (by unfold R64;omega)) (E Z (B.j8 (enc:=eC) Z) (Rt Z (leaf (val0:=.tup [vL eC [],vI ((k:Int)+1),vI 25]) (by kernel_rfl) (tup3 (lsl (by rw[hI0.2.2,parG_no (by omega) (cr_I h4 h5 h6 h7)])) (li (by rw[hI0.2.2,parG_no (by omega) (cr_I h4 h5 h6 h7)])) (li (by rw[hI0.2.2,parG_no (by omega) (cr_I h4 h5 h6 h7)]))))))
   refine E Z (B.jj (val:=.pv (.slice (List.map eC [((List.getD (qK (List.getD (ZO 59 s) k [])) 0 []),[],(Option.getD (intR (List.getD (qK (List.getD (ZO 59 s) k [])) 1 [])) 0))]))) Z (fun l=>Frz.arr l _ _ _ _ _) Z) (E Z (B.append Z Z Z un83 in115 Z (fun _=>rfl) by115 (by (simp only[za,zb,zd];omega))) (E Z (B.add Z Z (by unfold R64;omega)) (pk Z (L3 (k+1) (v+1) (out++[((List.getD (qK (List.getD (ZO 59 s) k [])) 0 []),[],(Option.getD (intR (List.getD (qK (List.getD (ZO 59 s) k [])) 1 [])) 0))]) ?_ ?_ (sb Z Z Z)))))
   · (refine⟨by omega,by (simp only[za,zb,zd];omega),hI0.2.2.trans ?_⟩;exact parG_at (by omega) (cr_V h4 h5 h6 h7))
   · omega
  refine E Z (B.jj (val:=.pv (.slice (List.map eC [((List.getD (qK (List.getD (ZO 59 s) k [])) 0 []),[],0)]))) Z (fun l=>Frz.arr l _ _ _ _ _) Z) (E Z (B.append Z Z Z un83 in115 Z (fun _=>rfl) by115 (by (simp only[za,zb,zd];omega))) (E Z (B.add Z Z (by unfold R64;omega)) (pk Z (L3 (k+1) (v+1) (out++[((List.getD (qK (List.getD (ZO 59 s) k [])) 0 []),[],0)]) ?_ ?_ (sb Z Z Z)))))
  · (refine⟨by omega,by (simp only[za,zb,zd];omega),hI0.2.2.trans ?_⟩;exact parG_at (by omega) (cr_N h4 h5 h6))
  · omega
 refine Fz 22 6 Z Z Z (C Z (w56 out (by omega)) Z Z Z (Cp Z Z (fun h8=>?_) (fun h8=>?_)))
 ·exact E Z (B.j8 (enc:=eC) Z) (Rt Z (leaf (val0:=.tup [vL eC [],vI 0,vI (chkS out)]) (by kernel_rfl) (tup3 (lsl (by (rw[hI0.2.2,parG_bad (by omega) (by assumption)]))) (li (by (rw[hI0.2.2,parG_bad (by omega) (by assumption)]))) (li (by (rw[hI0.2.2,parG_bad (by omega) (by assumption)]))))))
 exact Rt Z (leaf (val0:=.tup [vL eC out,vI 0,vI 0]) (by kernel_rfl) (tup3 (lsl (by (rw[hI0.2.2,parG_end (by omega) (by assumption)]))) (li (by (rw[hI0.2.2,parG_end (by omega) (by assumption)]))) (li (by (rw[hI0.2.2,parG_end (by omega) (by assumption)])))))
theorem w127 (hp:qH) (hj2:jl) (l:List Cmd) (hc:∀ c∈l,jI c=0) (hl:l.length<=64):CKa 127 [vL eC l] (vS (bsO (prtS l))):=by
 refine cG qf127 Z (nB Z) Z (E Z (B.adopt 4 1 9 Z Z) (E Z (B.jh Z un82) (l3 (fun (k:Nat) (v:Nat) (out:List (List UInt8))=>[(3,.aref 4 v),(6,vL eC l),(7,vI l.length),(8,vI k)]) (fun _ v out=>[(4,.arr v 1 9 (List.map eN out))]) (fun k _ out=>k<=l.length/\out.length=k/\out=List.map prtW (List.take k l)) (fun k _ _=>l.length-k) 0 0 [] Z ?_ (sb Z Z Z) ?_)))
 · exact⟨zq _,rfl,rfl⟩
 intro k v out hI0
 refine Cp Z Z (fun h1=>?_) (fun h1=>?_)
 ·refine E Z (B.idx (z:=z3) (i:=k) Z Z un82 sz116 (fun _=>rfl) Z (by omega)) ?_
  have hck:=hc _ (getD_mem (l:=l) (k:=k) (z:=z3) (by omega))
  have hcs:=cmd_sz hck
  refine E Z (B.seqB (a:=(l.getD k z3).1) (b:=[97,99,116]) Z Z) (Cp Z Z (fun h2=>?_) (fun h2=>?_))
  ·refine E Z (B.catB (a:=[97,99,116,32]) (b:=(l.getD k z3).2.1) Z Z (by (simp only[za,zb,zd];omega))) (E Z (B.jj (val:=.pv (.slice (List.map eN [([97,99,116,32]++(l.getD k z3).2.1)]))) Z (fun l=>Frz.arr l _ _ _ _ _) Z) (E Z (B.append Z Z Z ji in9 Z (fun _=>rfl) by9 (by (simp only[za,zb,zd];omega))) (E Z (B.add Z Z (by unfold R64;omega)) (pk Z (L3 (k+1) (v+1) (out++[([97,99,116,32]++(l.getD k z3).2.1)]) ?_ ?_ (sb Z Z Z))))))
   ·
     refine⟨by omega,by simp only[za,zb,zd];omega,?_⟩;exact prt_next (by omega) hI0.2.2 (by rw[prtW,if_pos h2])
   · omega
  refine E Z (B.seqB (a:=(l.getD k z3).1) (b:=[101,110,100]) Z Z) (Cp Z Z (fun h3=>?_) (fun h3=>?_))
  ·refine E Z (B.jj (val:=.pv (.slice (List.map eN [[101,110,100]]))) Z (fun l=>Frz.arr l _ _ _ _ _) Z) (E Z (B.append Z Z Z ji in9 Z (fun _=>rfl) by9 (by (simp only[za,zb,zd];omega))) (E Z (B.add Z Z (by unfold R64;omega)) (pk Z (L3 (k+1) (v+1) (out++[[101,110,100]]) ?_ ?_ (sb Z Z Z)))))
   ·
     refine⟨by omega,by simp only[za,zb,zd];omega,?_⟩;exact prt_next (by omega) hI0.2.2 (by rw[prtW,if_neg h2,if_pos h3])
   · omega
  have hil:=itoa_len (n:=(l.getD k z3).2.2) (by omega) (by omega)
  refine E Z (B.catB (a:=(l.getD k z3).1) (b:=[32]) Z Z (by (simp only[za,zb,zd];omega))) (C Z (w185 hp (l.getD k z3).2.2 (by unfold R64;omega)) Z Z Z (E Z (B.catB (a:=((l.getD k z3).1++[32])) (b:=(Lib.itoa (l.getD k z3).2.2)) Z Z (by (simp only[za,zb,zd];omega))) (E Z (B.jj (val:=.pv (.slice (List.map eN [(((l.getD k z3).1++[32])++(Lib.itoa (l.getD k z3).2.2))]))) Z (fun l=>Frz.arr l _ _ _ _ _) Z) (E Z (B.append Z Z Z ji in9 Z (fun _=>rfl) by9 (by (simp only[za,zb,zd];omega))) (Dr Z (by kernel_rfl) (E Z (B.add Z Z (by unfold R64;omega)) (pk Z (L3 (k+1) (v+1) (out++[(((l.getD k z3).1++[32])++(Lib.itoa (l.getD k z3).2.2))]) ?_ ?_ (sb Z Z Z)))))))))
  ·
    refine⟨by omega,by simp only[za,zb,zd];omega,?_⟩;exact prt_next (by omega) hI0.2.2 (by rw[prtW,if_neg h2,if_neg h3])
  · omega
 have hou:out=l.map prtW:=by rw[hI0.2.2,zx (by omega)]
 have hjw:∀ w∈out,w.length<=1000:=by rw[hou];exact prtW_mem hc
 exact Fz 12 3 Z Z Z (C Z (hj2 out (by omega) hjw) Z Z Z (Rt Z (leaf (val0:=vS (bsO (joinC out))) (by kernel_rfl) (ls (by exact congrArg (fun z=>bsO (joinC z)) hou)))))
theorem w57 (l:List Cmd) (hc:∀ c∈l,jI c=0) (hl:l.length<=64):CKa 57 [vL eC l] (vS (bsO (prtS l))):=by
 refine cG qf57 Z (nB Z) Z (l2 (fun (k:Nat) (s:List UInt8)=>[(0,vL eC l),(3,vS (bsO s)),(4,vI k)]) (fun _ _=>[]) (fun k s=>k<=l.length/\s=prtS (List.take k l)) (fun k _=>l.length-k) 0 [] Z ?_ (sb Z Z Z) ?_)
 · exact⟨zq _,rfl⟩
 intro k s hI0
 refine E Z (B.jh Z un83) (Cp Z Z (fun h1=>?_) (fun h1=>?_))
 ·have hck:=hc _ (getD_mem (l:=l) (k:=k) (z:=z3) (by omega))
  have hcs:=cmd_sz hck
  have hls:s.length<=k*42:=by have hpl:=prtS_len (l:=List.take k l) (fun c h=>hc c (zr h));rw[zn] at hpl;rw[hI0.2];omega
  have hAl:=sA_len s k
  refine Cj [(0,vL eC l),(3,vS (bsO (sA s k))),(4,vI k)] [] Z Z Z (fun h2=>?_) (fun h2=>?_) ?_
  ·replace h2:=of_decide_eq_true h2
   refine E Z (B.catB (a:=s) (b:=[59,32]) Z Z (by (simp only[za,zb,zd];omega))) (pk Z ?_)
   show Sub _ _ _
   rw[sA,if_pos (by omega)]
   exact sb Z Z rfl
  ·replace h2:=of_decide_eq_false h2
   refine pk Z ?_
   show Sub _ _ _
   rw[sA,if_neg (by omega)]
   exact sb Z Z rfl
  refine E Z (B.idx (z:=z3) (i:=k) Z Z un83 ZI (fun _=>rfl) Z (by omega)) (E Z (B.catB (a:=(sA s k)) (b:=(l.getD k z3).1) Z Z (by omega)) ?_)
  have hBl:=sB_len (l.getD k z3) (sA s k++(l.getD k z3).1)
  have hAo:(sA s k++(l.getD k z3).1).length<=10000:=by simp only[za];omega
  refine E Z (B.idx (z:=z3) (i:=k) Z Z un83 ZI (fun _=>rfl) Z (by omega)) (E Z (B.sneB (a:=(l.getD k z3).2.1) (b:=[]) Z Z) (Cj [(0,vL eC l),(3,vS (bsO (sB (l.getD k z3) (sA s k++(l.getD k z3).1)))),(4,vI k)] [] Z Z Z (fun h3=>?_) (fun h3=>?_) ?_))
  ·replace h3:=of_decide_eq_true h3
   refine E Z (B.catB (a:=((sA s k)++(l.getD k z3).1)) (b:=[32]) Z Z (by (simp only[za,zb,zd];omega))) (E Z (B.idx (z:=z3) (i:=k) Z Z un83 ZI (fun _=>rfl) Z (by omega)) (E Z (B.catB (a:=(((sA s k)++(l.getD k z3).1)++[32])) (b:=(l.getD k z3).2.1) Z Z (by (simp only[za,zb,zd];omega))) (pk Z ?_)))
   show Sub _ _ _
   rw[sB,if_neg (by assumption)]
   exact sb Z Z rfl
  ·replace h3:=of_decide_eq_false h3
   refine pk Z ?_
   show Sub _ _ _
   rw[sB,if_pos (zi.1 (by assumption))]
   exact sb Z Z rfl
  refine E Z (B.idx (z:=z3) (i:=k) Z Z un83 ZI (fun _=>rfl) Z (by omega)) (Cj [(0,vL eC l),(3,vS (bsO (sC (l.getD k z3) (sB (l.getD k z3) (sA s k++(l.getD k z3).1))))),(4,vI k)] [] Z Z Z (fun h4=>?_) (fun h4=>?_) ?_)
  ·replace h4:=of_decide_eq_true h4
   refine E Z (B.catB (a:=(sB (l.getD k z3) (sA s k++(l.getD k z3).1))) (b:=[32]) Z Z (by (simp only[za,zb,zd];omega))) (E Z (B.idx (z:=z3) (i:=k) Z Z un83 ZI (fun _=>rfl) Z (by omega)) (C Z (w131 (l.getD k z3).2.2 (by omega) (by omega)) Z Z Z (E Z (B.catB (a:=((sB (l.getD k z3) (sA s k++(l.getD k z3).1))++[32])) (b:=(Lib.itoa (l.getD k z3).2.2)) Z Z (by (have hil:=itoa_len (n:=(l.getD k z3).2.2) (by omega) (by omega);simp only[za,zb,zd];omega))) (pk Z ?_))))
   show Sub _ _ _
   rw[sC,if_neg (by assumption)]
   exact sb Z Z rfl
  ·replace h4:=of_decide_eq_false h4
   refine pk Z ?_
   show Sub _ _ _
   rw[sC,if_pos (zi.1 (by assumption))]
   exact sb Z Z rfl
  refine E Z (B.add Z Z (by unfold R64;omega)) (pk Z (L2 (k+1) (sC (l.getD k z3) (sB (l.getD k z3) (sA s k++(l.getD k z3).1))) ?_ ?_ (sb Z Z Z)))
  · exact⟨by omega,src_next hc (by omega) hI0.2⟩
  · omega
 exact Rt Z (leaf (val0:=vS (bsO s)) (by kernel_rfl) (ls (by rw[hI0.2,zx (by omega)])))
end Go.Lens.Tm
end
section
namespace Go.Lens.Tm
open Go.Lens.Tb Go.Proofs
abbrev Ev:=Int×List UInt8×List (List UInt8)×List Int×List UInt8
variable [Lz]
def eE (e:Ev):List PV:=[pI e.1,pS (bsO e.2.1),pL eN e.2.2.1,pL eI e.2.2.2.1,pS (bsO e.2.2.2.2)]
abbrev gV (e:Ev):PV:=.agg [pI e.1,pS (bsO e.2.1),pL eN e.2.2.1,pL eI e.2.2.2.1,pS (bsO e.2.2.2.2)]
abbrev bV (t:TypeId) (e:Ev):MO:=.box t [vI e.1,vS (bsO e.2.1),vL eN e.2.2.1,vL eI e.2.2.2.1,vS (bsO e.2.2.2.2)]
abbrev zV:Ev:=(0,[],[],[],[])
abbrev kTar:List UInt8:=[116,97,114,103,101,116]
abbrev ZN:List UInt8:=[114,117,110]
abbrev kObs:List UInt8:=[111,98,115,101,114,118,101]
abbrev kCal:List UInt8:=[99,97,108,105,98,114,97,116,101]
abbrev Z5:List UInt8:=[117,110,100,111]
def kD (k:List UInt8):Int×Int×Bool:=if k=kTar then (1,7,true) else if k=jV then (1,1,true) else if k=kObs then (1,1,true) else if k=ZN then (0,1,true) else if k=kCal then (1,2,true) else if k=Z5 then (0,0,true) else (0,0,false)
def scrB (s:List UInt8):Bool:=decide ((qY ZP s).2.2=0)&&(decide (0<(qY ZP s).1.length)&&decide (prtS (qY ZP s).1=s))
def fldB (s:List UInt8):Bool:=decide ((kW s).2=0)&&decide (prtF (kW s).1=s)
def txtB (e:Ev):Bool:=if e.2.1=ZN then scrB e.2.2.2.2 else if e.2.1=kCal then fldB e.2.2.2.2 else decide (e.2.2.2.2=[])
def namE (l:List (List UInt8)):Int:=if l.all (fun w=>qV (bsO w)) then 0 else 8
def valE (l:List Int):Int:=if l.all (fun n=>!Zw n 0 999999999) then 0 else 3
def shpB (e:Ev):Bool:=decide (((e.2.2.1.length:Nat):Int)≠(kD e.2.1).1)||decide (((e.2.2.2.1.length:Nat):Int)≠(kD e.2.1).2.1)
def jp (e:Ev):Int:=qP [qG e.1 1 1000,qF (!(kD e.2.1).2.2) 13,qF (shpB e) 2,namE e.2.2.1,valE e.2.2.2.1,qF (!txtB e) 1]
theorem parG_all0 (f:List UInt8->Cmd×Bool):∀ (ps:List (List UInt8)) (i:Nat) (out:List Cmd),(parG f ps i out).1=[]\/chkS (parG f ps i out).1=0
 | [],i,out=>by
  rw[parG]
  split
  ·exact .inl rfl
  rename_i h;exact .inr (zi.1 h)
 | p::ps,i,out=>by
  rw[parG]
  split
  ·exact .inl rfl
  exact parG_all0 f ps _ _
theorem parScr_all (f:List UInt8->Cmd×Bool) (s:List UInt8):(qY f s).1=[]\/chkS (qY f s).1=0:=by
 unfold qY
 split
 ·exact .inl rfl
 split
 ·exact .inl rfl
 exact parG_all0 f _ _ _
theorem jL (f:List UInt8->Cmd×Bool) (s:List UInt8):(qY f s).1.length<=64/\∀ c∈(qY f s).1,jI c=0:=by
 rcases parScr_all f s with h|h
 ·rw[h];exact⟨by simp,fun c hc=>by cases hc⟩
 obtain⟨h1,h2,_,_⟩:=chkS_ok h;exact⟨h1,h2⟩
theorem parF_len (s:List UInt8):(kW s).1.length<=1000/\∀ f∈(kW s).1,f.1.length<=1000000/\f.2.length<=1000000:=by
 have h:=parF_fit s
 exact⟨by omega,fun f hf=>by have:=h.2 f hf;omega⟩
section
variable {k:List UInt8}
theorem frm_t (h:k=kTar):kD k=(1,7,true):=by unfold kD;rw[if_pos h]
theorem frm_a (h0:¬k=kTar) (h:k=jV):kD k=(1,1,true):=by unfold kD;rw[if_neg h0,if_pos h]
theorem frm_o (h0:¬k=kTar) (h1:¬k=jV) (h:k=kObs):kD k=(1,1,true):=by unfold kD;rw[if_neg h0,if_neg h1,if_pos h]
theorem frm_r (h0:¬k=kTar) (h1:¬k=jV) (h2:¬k=kObs) (h:k=ZN):kD k=(0,1,true):=by unfold kD;rw[if_neg h0,if_neg h1,if_neg h2,if_pos h]
theorem frm_c (h0:¬k=kTar) (h1:¬k=jV) (h2:¬k=kObs) (h3:¬k=ZN) (h:k=kCal):kD k=(1,2,true):=by unfold kD;rw[if_neg h0,if_neg h1,if_neg h2,if_neg h3,if_pos h]
theorem frm_u (h0:¬k=kTar) (h1:¬k=jV) (h2:¬k=kObs) (h3:¬k=ZN) (h4:¬k=kCal) (h:k=Z5):kD k=(0,0,true):=by unfold kD;rw[if_neg h0,if_neg h1,if_neg h2,if_neg h3,if_neg h4,if_pos h]
theorem frm_n (h0:¬k=kTar) (h1:¬k=jV) (h2:¬k=kObs) (h3:¬k=ZN) (h4:¬k=kCal) (h:¬k=Z5):kD k=(0,0,false):=by unfold kD;rw[if_neg h0,if_neg h1,if_neg h2,if_neg h3,if_neg h4,if_neg h]
end
end Go.Lens.Tm
end
section
namespace Go.Lens.Tm
open Go.Lens.Tb Go.Proofs
variable [Lz]
set_option maxHeartbeats 4000000
set_option maxRecDepth 100000
attribute [local irreducible] TK PK T RG EfR Body CG
theorem w204 (s:List UInt8):CKa 204 [vS (bsO s)] (vB (decide (s=[]))):=by
 exact cG qf204 Z (nB Z) Z (E Z (B.seqB (a:=s) (b:=[]) Z Z) (Rt Z (leaf Z Z)))
theorem w207 (hp:qH) (he:je) (hj2:jl) (s:List UInt8) (hl:s.length<=4000):CKa 207 [vS (bsO s)] (vB (scrB s)):=by
 exact cG qf207 Z (nB Z) Z (C Z (w55 hp he s (by omega)) Z Z Z (Eg Z Z (fun hc=>B.move Z) Z (Eg Z Z (fun hc=>B.jh (qy Z hc) un82) Z (Eg Z Z (fun hc=>B.gtr (qy Z hc) Z) Z (E Z (B.pick Z Z Z (gdB Z) Z (qJ _)) (Eg Z Z (fun hc=>B.move Z) Z (Eg Z Z (fun hc=>B.call (w127 hp hj2 (qY ZP s).1 (jL ZP s).2 (jL ZP s).1) Z (ds1 (qy Z hc)) Z) Z (Eg Z Z (fun hc=>B.move Z) Z (Eg Z Z (fun hc=>B.seqB (a:=(prtS (qY ZP s).1)) (b:=s) (qy Z hc) (qy Z hc)) Z (E Z (B.pick Z Z Z (gdB Z) Z (qJ _)) (Rt Z (leaf (val0:=vB (bif (bif (decide ((qY ZP s).2.2=0)) then (decide (0<((List.length (qY ZP s).1:Nat):Int))) else false) then (decide ((prtS (qY ZP s).1)=s)) else false)) (by kernel_rfl) (lb (by simp only[scrB,jw,Bool.and_assoc];congr 2;rw[decide_eq_decide];omega))))))))))))))
theorem w210 (hp:qH) (hj:jE) (s:List UInt8) (hl:s.length<=4000):CKa 210 [vS (bsO s)] (vB (fldB s)):=by
 exact cG qf210 Z (nB Z) Z (C Z (w37 hp s (by omega)) Z Z Z (Eg Z Z (fun hc=>B.move Z) Z (Eg Z Z (fun hc=>B.call (w115 hj (kW s).1 (parF_fit s)) Z (ds1 (qy Z hc)) Z) Z (Eg Z Z (fun hc=>B.move Z) Z (Eg Z Z (fun hc=>B.seqB (a:=(prtF (kW s).1)) (b:=s) (qy Z hc) (qy Z hc)) Z (E Z (B.pick Z Z Z (gdB Z) Z (qJ _)) (Rt Z (leaf (val0:=vB (bif (decide ((kW s).2=0)) then (decide ((prtF (kW s).1)=s)) else false)) (by kernel_rfl) (lb (by simp only[fldB,jw]))))))))))
theorem w144 (k:List UInt8):CKa 144 [vS (bsO k)] (.pv (.agg [pI (kD k).1,pI (kD k).2.1,pB (kD k).2.2])):=by
 refine cG qf144 Z (nB Z) Z (E Z (B.seqB (a:=k) (b:=[116,97,114,103,101,116]) Z Z) (Cp Z Z (fun h1=>?_) (fun h1=>?_)))
 ·exact Rt Z (leaf (val0:=.pv (.agg [pI 1,pI 7,pB true])) (by kernel_rfl) (lag (q5 (pli (by rw[frm_t (by assumption)])) (q5 (pli (by rw[frm_t (by assumption)])) (q5 (plb (by rw[frm_t (by assumption)])) Z)))))
 refine E Z (B.seqB (a:=k) (b:=[97,99,116]) Z Z) (Cp Z Z (fun h2=>?_) (fun h2=>?_))
 ·refine Cp Z Z (fun h3=>?_) (fun h3=>?_)
  ·exact Rt Z (leaf (val0:=.pv (.agg [pI 1,pI 1,pB true])) (by kernel_rfl) (lag (q5 (pli (by rw[frm_a (by assumption) (by assumption)])) (q5 (pli (by rw[frm_a (by assumption) (by assumption)])) (q5 (plb (by rw[frm_a (by assumption) (by assumption)])) Z)))))
  refine E Z (B.seqB (a:=k) (b:=[114,117,110]) Z Z) (Cp Z Z (fun h4=>?_) (fun h4=>?_))
  ·exact Rt Z (leaf (val0:=.pv (.agg [pI 0,pI 1,pB true])) (by kernel_rfl) (lag (q5 (pli (by (exfalso;contradiction))) (q5 (pli (by (exfalso;contradiction))) (q5 (plb (by (exfalso;contradiction))) Z)))))
  refine E Z (B.seqB (a:=k) (b:=[99,97,108,105,98,114,97,116,101]) Z Z) (Cp Z Z (fun h5=>?_) (fun h5=>?_))
  ·exact Rt Z (leaf (val0:=.pv (.agg [pI 1,pI 2,pB true])) (by kernel_rfl) (lag (q5 (pli (by (exfalso;contradiction))) (q5 (pli (by (exfalso;contradiction))) (q5 (plb (by (exfalso;contradiction))) Z)))))
  refine E Z (B.seqB (a:=k) (b:=[117,110,100,111]) Z Z) (Cp Z Z (fun h6=>?_) (fun h6=>?_))
  ·exact Rt Z (leaf (val0:=.pv (.agg [pI 0,pI 0,pB true])) (by kernel_rfl) (lag (q5 (pli (by (exfalso;contradiction))) (q5 (pli (by (exfalso;contradiction))) (q5 (plb (by (exfalso;contradiction))) Z)))))
  exact Rt Z (leaf (val0:=.pv (.agg [pI 0,pI 0,pB false])) (by kernel_rfl) (lag (q5 (pli (by (exfalso;contradiction))) (q5 (pli (by (exfalso;contradiction))) (q5 (plb (by (exfalso;contradiction))) Z)))))
 refine E Z (B.seqB (a:=k) (b:=[111,98,115,101,114,118,101]) Z Z) (Cp Z Z (fun h7=>?_) (fun h7=>?_))
 ·exact Rt Z (leaf (val0:=.pv (.agg [pI 1,pI 1,pB true])) (by kernel_rfl) (lag (q5 (pli (by rw[frm_o (by assumption) (by assumption) (by assumption)])) (q5 (pli (by rw[frm_o (by assumption) (by assumption) (by assumption)])) (q5 (plb (by rw[frm_o (by assumption) (by assumption) (by assumption)])) Z)))))
 refine E Z (B.seqB (a:=k) (b:=[114,117,110]) Z Z) (Cp Z Z (fun h8=>?_) (fun h8=>?_))
 ·exact Rt Z (leaf (val0:=.pv (.agg [pI 0,pI 1,pB true])) (by kernel_rfl) (lag (q5 (pli (by rw[frm_r (by assumption) (by assumption) (by assumption) (by assumption)])) (q5 (pli (by rw[frm_r (by assumption) (by assumption) (by assumption) (by assumption)])) (q5 (plb (by rw[frm_r (by assumption) (by assumption) (by assumption) (by assumption)])) Z)))))
 refine E Z (B.seqB (a:=k) (b:=[99,97,108,105,98,114,97,116,101]) Z Z) (Cp Z Z (fun h9=>?_) (fun h9=>?_))
 ·exact Rt Z (leaf (val0:=.pv (.agg [pI 1,pI 2,pB true])) (by kernel_rfl) (lag (q5 (pli (by rw[frm_c (by assumption) (by assumption) (by assumption) (by assumption) (by assumption)])) (q5 (pli (by rw[frm_c (by assumption) (by assumption) (by assumption) (by assumption) (by assumption)])) (q5 (plb (by rw[frm_c (by assumption) (by assumption) (by assumption) (by assumption) (by assumption)])) Z)))))
 refine E Z (B.seqB (a:=k) (b:=[117,110,100,111]) Z Z) (Cp Z Z (fun h10=>?_) (fun h10=>?_))
 ·exact Rt Z (leaf (val0:=.pv (.agg [pI 0,pI 0,pB true])) (by kernel_rfl) (lag (q5 (pli (by rw[frm_u (by assumption) (by assumption) (by assumption) (by assumption) (by assumption) (by assumption)])) (q5 (pli (by rw[frm_u (by assumption) (by assumption) (by assumption) (by assumption) (by assumption) (by assumption)])) (q5 (plb (by rw[frm_u (by assumption) (by assumption) (by assumption) (by assumption) (by assumption) (by assumption)])) Z)))))
 exact Rt Z (leaf (val0:=.pv (.agg [pI 0,pI 0,pB false])) (by kernel_rfl) (lag (q5 (pli (by rw[frm_n (by assumption) (by assumption) (by assumption) (by assumption) (by assumption) (by assumption)])) (q5 (pli (by rw[frm_n (by assumption) (by assumption) (by assumption) (by assumption) (by assumption) (by assumption)])) (q5 (plb (by rw[frm_n (by assumption) (by assumption) (by assumption) (by assumption) (by assumption) (by assumption)])) Z)))))
end Go.Lens.Tm
end
section
namespace Go.Lens.Tm
open Go.Lens.Tb Go.Proofs
variable [Lz]
theorem scr_b (s:List UInt8):(bif (bif (decide ((qY ZE s).2.2≠0)) then true else (decide (((qY ZE s).1.length:Int)=0))) then true else (decide (prtS (qY ZE s).1≠s)))=!(scrB s):=by
 rw[scrB,par_same]
 simp only[jA]
 rw[zM]
 simp only[Bool.or_eq_true,zf,Bool.not_eq_true',Bool.and_eq_false_iff,zH]
 constructor
 ·rintro ((h|h)|h)
  ·exact .inl h
  ·exact .inr (.inl (by omega))
  exact .inr (.inr h)
 rintro (h|h|h)
 ·exact .inl (.inl h)
 ·exact .inl (.inr (by omega))
 exact .inr h
theorem fld_b (s:List UInt8):(bif (decide ((kW s).2≠0)) then true else (decide (prtF (kW s).1≠s)))=!(fldB s):=by
 rw[fldB]
 simp only[jA]
 rw[zM]
 simp only[Bool.or_eq_true,zf,Bool.not_eq_true',Bool.and_eq_false_iff,zH]
section
variable {e:Ev} {b:Bool}
theorem ct_r (h1:e.2.1=ZN) (h2:(bif (bif (decide ((qY ZE e.2.2.2.2).2.2≠0)) then true else (decide (((qY ZE e.2.2.2.2).1.length:Int)=0))) then true else (decide (prtS (qY ZE e.2.2.2.2).1≠e.2.2.2.2)))=b):qF (!(txtB e)) 1=qF b 1:=by
 rw[txtB,if_pos h1,<-scr_b,h2]
theorem ct_c (h0:¬e.2.1=ZN) (h1:e.2.1=kCal) (h2:(bif (decide ((kW e.2.2.2.2).2≠0)) then true else (decide (prtF (kW e.2.2.2.2).1≠e.2.2.2.2)))=b):qF (!(txtB e)) 1=qF b 1:=by
 rw[txtB,if_neg h0,if_pos h1,<-fld_b,h2]
theorem ct_n1 (h0:¬e.2.1=ZN) (h1:¬e.2.1=kCal) (h2:e.2.2.2.2≠[]):qF (!(txtB e)) 1=1:=by
 rw[txtB,if_neg h0,if_neg h1,zk h2];rfl
theorem ct_n0 (h0:¬e.2.1=ZN) (h1:¬e.2.1=kCal) (h2:¬e.2.2.2.2≠[]):qF (!(txtB e)) 1=0:=by
 rw[txtB,if_neg h0,if_neg h1,zl (zi.1 h2)];rfl
end
theorem bn_t {b:Bool} (h:(!b)=false):b=true:=by simpa using h
theorem bn_f {b:Bool} (h:(!b)=true):b=false:=by simpa using h
theorem namE_no {l:List (List UInt8)} {k:Nat} (hk:k<l.length) (h:qV (bsO (l.getD k []))=false):namE l=8:=by
 unfold namE
 rw[if_neg]
 intro ha
 rw[zp] at ha
 have:=ha _ (getD_mem (z:=[]) hk)
 rw[h] at this;cases this
theorem namE_ok {l:List (List UInt8)} (h:∀ j,j<l.length->qV (bsO (l.getD j []))=true):namE l=0:=by
 unfold namE
 rw[if_pos]
 rw[zp]
 intro x hx
 obtain⟨j,hj,rfl⟩:=List.getElem_of_mem hx
 have:=h j hj
 rwa [ze,zm hj] at this
theorem valE_no {l:List Int} {k:Nat} (hk:k<l.length) (h:Zw (l.getD k 0) 0 999999999=true):valE l=3:=by
 unfold valE
 rw[if_neg]
 intro ha
 rw[zp] at ha
 have:=ha _ (getD_mem (z:=0) hk)
 rw[h] at this;cases this
theorem valE_ok {l:List Int} (h:∀ j,j<l.length->Zw (l.getD j 0) 0 999999999=false):valE l=0:=by
 unfold valE
 rw[if_pos]
 rw[zp]
 intro x hx
 obtain⟨j,hj,rfl⟩:=List.getElem_of_mem hx
 have:=h j hj
 rw[ze,zm hj,zP] at this
 rw[this];rfl
section
variable {e:Ev}
theorem j4 (x:Int) (r:List Int):qP (x::r)=if x=0 then qP r else x:=rfl
theorem whenff (e:Int):qF false e=0:=rfl
theorem shp_b (e:Ev):(bif (decide ((e.2.2.1.length:Int)≠(kD e.2.1).1)) then true else (decide ((e.2.2.2.1.length:Int)≠(kD e.2.1).2.1)))=shpB e:=by
 rw[jA];rfl
theorem shp_ok (h:(bif (decide ((e.2.2.1.length:Int)≠(kD e.2.1).1)) then true else (decide ((e.2.2.2.1.length:Int)≠(kD e.2.1).2.1)))=false):(kD e.2.1).1=(e.2.2.1.length:Int)/\(kD e.2.1).2.1=(e.2.2.2.1.length:Int):=by
 rw[jA,qc] at h
 have h1:=of_decide_eq_false h.1
 have h2:=of_decide_eq_false h.2
 omega
theorem ce_rng (h1:Zw e.1 1 1000=true):jp e=3:=by
 rw[jp,j4,with_out h1];rfl
theorem ce_kind (h1:Zw e.1 1 1000=false) (h2:(!(kD e.2.1).2.2)=true):jp e=13:=by
 rw[jp,j4,with_in h1,if_pos rfl,j4,h2];rfl
variable (h1:Zw e.1 1 1000=false) (h2:(!(kD e.2.1).2.2)=false)
include h1 h2
theorem ce_shp (h3:(bif (decide ((e.2.2.1.length:Int)≠(kD e.2.1).1)) then true else (decide ((e.2.2.2.1.length:Int)≠(kD e.2.1).2.1)))=true):jp e=2:=by
 rw[shp_b] at h3
 rw[jp,j4,with_in h1,if_pos rfl,j4,h2,whenff,if_pos rfl,j4,h3];rfl
theorem ce_mid (h3:(bif (decide ((e.2.2.1.length:Int)≠(kD e.2.1).1)) then true else (decide ((e.2.2.2.1.length:Int)≠(kD e.2.1).2.1)))=false):jp e=qP [namE e.2.2.1,valE e.2.2.2.1,qF (!txtB e) 1]:=by
 rw[shp_b] at h3
 rw[jp,j4,with_in h1,if_pos rfl,j4,h2,whenff,if_pos rfl,j4,h3,whenff,if_pos rfl]
variable (h3:(bif (decide ((e.2.2.1.length:Int)≠(kD e.2.1).1)) then true else (decide ((e.2.2.2.1.length:Int)≠(kD e.2.1).2.1)))=false)
include h3
theorem ce_nam (h4:namE e.2.2.1=8):jp e=8:=by
 rw[ce_mid h1 h2 h3,j4,h4];rfl
theorem ce_val (h4:namE e.2.2.1=0) (h5:valE e.2.2.2.1=3):jp e=3:=by
 rw[ce_mid h1 h2 h3,j4,h4,if_pos rfl,j4,h5];rfl
theorem ce_txt (h4:namE e.2.2.1=0) (h5:valE e.2.2.2.1=0):jp e=qF (!txtB e) 1:=by
 rw[ce_mid h1 h2 h3,j4,h4,if_pos rfl,j4,h5,if_pos rfl]
 exact ZV _
end
end Go.Lens.Tm
end
section
namespace Go.Lens.Tm
open Go.Lens.Tb Go.Proofs
variable [Lz]
set_option maxHeartbeats 4000000
set_option maxRecDepth 100000
attribute [local irreducible] TK PK T RG EfR Body CG
theorem ag119:aggT tab 119=some true:=by kernel_rfl
theorem ag73:aggT tab 73=some false:=by kernel_rfl
theorem fa119_0:fadQ tab 119 0=some 0:=by kernel_rfl
theorem fa119_1:fadQ tab 119 1=some 1:=by kernel_rfl
theorem fa119_2:fadQ tab 119 2=some 2:=by kernel_rfl
theorem fa119_3:fadQ tab 119 3=some 3:=by kernel_rfl
theorem fa119_4:fadQ tab 119 4=some 4:=by kernel_rfl
theorem fa241_1:fadQ tab 241 1=some 1:=by kernel_rfl
theorem kJ:szT tab 119=some 5:=by kernel_rfl
theorem sz73:szT tab 73=some 1:=by kernel_rfl
theorem w140 (e:Ev) (hl:e.2.2.2.2.length<=4000):CKa 140 [.pv (.agg [pI e.1,pS (bsO e.2.1),pL eN e.2.2.1,pL eI e.2.2.2.1,pS (bsO e.2.2.2.2)])] (vI (qF (!(txtB e)) 1)):=by
 refine cG qf140 Z (nB Z) Z (E Z (B.seqB (a:=e.2.1) (b:=[114,117,110]) Z Z) (Cp Z Z (fun h1=>?_) (fun h1=>?_)))
 ·refine C Z (w58 e.2.2.2.2 (by omega)) Z Z Z (Eg Z Z (fun hc=>B.move Z) Z (Eg Z Z (fun hc=>B.jh (qy Z hc) un83) Z (Eg Z Z (fun hc=>B.eql (qy Z hc) Z) Z (E Z (B.pick Z Z Z Z (gdB Z) (q7 _)) (Eg Z Z (fun hc=>B.move Z) Z (Eg Z Z (fun hc=>B.call (w57 (qY ZE e.2.2.2.2).1 (jL ZE _).2 (jL ZE _).1) Z (ds1 (qy Z hc)) Z) Z (Eg Z Z (fun hc=>B.Z9 Z fa119_4 Z) Z (Eg Z Z (fun hc=>B.jP (qy Z hc) Z Z ag9 sz9 Z) Z (Eg Z Z (fun hc=>B.sneB (a:=(prtS (qY ZE e.2.2.2.2).1)) (b:=e.2.2.2.2) (qy Z hc) (qy Z hc)) Z (E Z (B.pick Z Z Z Z (gdB Z) (q7 _)) (Dr Z (by kernel_rfl) (Cb Z Z (fun h2=>?_) (fun h2=>?_)))))))))))))
  ·exact Rt Z (leaf (val0:=vI 1) (by kernel_rfl) (li (by (rw[ct_r h1 (by assumption)];rfl))))
  exact Rt Z (leaf (val0:=vI 0) (by kernel_rfl) (li (by (rw[ct_r h1 (by assumption)];rfl))))
 refine E Z (B.seqB (a:=e.2.1) (b:=[99,97,108,105,98,114,97,116,101]) Z Z) (Cp Z Z (fun h3=>?_) (fun h3=>?_))
 ·refine C Z (w40 e.2.2.2.2 (by omega)) Z Z Z (Eg Z Z (fun hc=>B.move Z) Z (Eg Z Z (fun hc=>B.call (w39 (kW e.2.2.2.2).1 (parF_len _).1 (parF_len _).2) Z (ds1 (qy Z hc)) Z) Z (Eg Z Z (fun hc=>B.Z9 Z fa119_4 Z) Z (Eg Z Z (fun hc=>B.jP (qy Z hc) Z Z ag9 sz9 Z) Z (Eg Z Z (fun hc=>B.sneB (a:=(prtF (kW e.2.2.2.2).1)) (b:=e.2.2.2.2) (qy Z hc) (qy Z hc)) Z (E Z (B.pick Z Z Z Z (gdB Z) (q7 _)) (Dr Z (by kernel_rfl) (Cb Z Z (fun h4=>?_) (fun h4=>?_)))))))))
  ·exact Rt Z (leaf (val0:=vI 1) (by kernel_rfl) (li (by (rw[ct_c h1 (by assumption) (by assumption)];rfl))))
  exact Rt Z (leaf (val0:=vI 0) (by kernel_rfl) (li (by (rw[ct_c h1 (by assumption) (by assumption)];rfl))))
 refine E Z (B.sneB (a:=e.2.2.2.2) (b:=[]) Z Z) (Cp Z Z (fun h5=>?_) (fun h5=>?_))
 ·exact Rt Z (leaf (val0:=vI 1) (by kernel_rfl) (li (by rw[ct_n1 h1 (by assumption) (by assumption)])))
 exact Rt Z (leaf (val0:=vI 0) (by kernel_rfl) (li (by rw[ct_n0 h1 (by assumption) (by assumption)])))
theorem w69 (e:Ev) (hl:e.2.2.2.2.length<=4000) (hn:e.2.2.1.length<=1000000000) (hv:e.2.2.2.1.length<=1000000000):CKa 69 [.pv (.agg [pI e.1,pS (bsO e.2.1),pL eN e.2.2.1,pL eI e.2.2.2.1,pS (bsO e.2.2.2.2)])] (vI (jp e)):=by
 refine cG qf69 Z (nB Z) Z (C Z (w93 e.1 1 1000) Z Z Z (Cb Z Z (fun h1=>?_) (fun h1=>?_)))
 ·exact Rt Z (leaf (val0:=vI 3) (by kernel_rfl) (li (by exact (ce_rng h1).symm)))
 refine C Z (w144 e.2.1) Z Z Z (Cb Z Z (fun h2=>?_) (fun h2=>?_))
 ·exact Rt Z (leaf (val0:=vI 13) (by kernel_rfl) (li (by exact (ce_kind h1 h2).symm)))
 refine E Z (B.jh Z ji) (Eg Z Z (fun hc=>B.Z9 Z fa119_3 Z) Z (Eg Z Z (fun hc=>B.jP (qy Z hc) Z Z ag22 sz22 Z) Z (Eg Z Z (fun hc=>B.jh (qy Z hc) ku) Z (Eg Z Z (fun hc=>B.Z9 Z fa241_1 Z) Z (Eg Z Z (fun hc=>B.jP (qy Z hc) Z Z ag3 sz3 Z) Z (Eg Z Z (fun hc=>B.neq (qy Z hc) (qy Z hc)) Z (E Z (B.pick Z Z Z Z (gdB Z) (q7 _)) (Cb Z Z (fun h3=>?_) (fun h3=>?_)))))))))
 ·exact Rt Z (leaf (val0:=vI 2) (by kernel_rfl) (li (by exact (ce_shp h1 h2 h3).symm)))
 obtain⟨hz1,hz2⟩:=shp_ok h3
 refine l1 (fun (k:Nat)=>[(1,.bref 2 0),(3,.bref 4 0),(4,vI k)]) (fun _=>[(2,.box 119 [vI e.1,vS (bsO e.2.1),vL eN e.2.2.1,vL eI e.2.2.2.1,vS (bsO e.2.2.2.2)]),(4,.box 241 [vI (kD e.2.1).1,vI (kD e.2.1).2.1,vB (kD e.2.1).2.2])]) (fun k=>k<=e.2.2.1.length/\∀ j,j<k->qV (bsO (e.2.2.1.getD j []))=true) (fun k=>e.2.2.1.length-k) 0 Z ?_ (sb Z Z Z) ?_
 · exact⟨zq _,fun j hj=>by omega⟩
 intro k hI0
 refine Cp Z Z (fun h4=>?_) (fun h4=>?_)
 ·refine E Z (B.idx (z:=[]) (i:=k) Z Z ji sz9 (fun _=>rfl) Z (by omega)) (C Z (w94 (bsO (e.2.2.1.getD k []))) Z Z Z (Cb Z Z (fun h5=>?_) (fun h5=>?_)))
  ·exact Rt Z (leaf (val0:=vI 8) (by kernel_rfl) (li (by exact (ce_nam h1 h2 h3 (namE_no (k:=k) (by omega) (bn_f (by assumption)))).symm)))
  refine E Z (B.add Z Z (by unfold R64;omega)) (pk Z (L1 (k+1) ?_ ?_ (sb Z Z Z)))
  · (refine⟨by omega,fun j hj=>?_⟩;rcases zy.1 hj with h|h;exact hI0.2 j h;subst h;exact bn_t (by assumption))
  · omega
 refine l1 (fun (i:Nat)=>[(1,.bref 2 0),(3,.bref 4 0),(5,vI i)]) (fun _=>[(2,.box 119 [vI e.1,vS (bsO e.2.1),vL eN e.2.2.1,vL eI e.2.2.2.1,vS (bsO e.2.2.2.2)]),(4,.box 241 [vI (kD e.2.1).1,vI (kD e.2.1).2.1,vB (kD e.2.1).2.2])]) (fun i=>i<=e.2.2.2.1.length/\∀ j,j<i->Zw (e.2.2.2.1.getD j 0) 0 999999999=false) (fun i=>e.2.2.2.1.length-i) 0 Z ?_ (sb Z Z Z) ?_
 · exact⟨zq _,fun j hj=>by omega⟩
 intro i hI1
 refine Cp Z Z (fun h6=>?_) (fun h6=>?_)
 ·refine E Z (B.idx (z:=0) (i:=i) Z Z ku sz3 (fun _=>rfl) Z (by omega)) (C Z (w93 (e.2.2.2.1.getD i 0) 0 999999999) Z Z Z (Cb Z Z (fun h7=>?_) (fun h7=>?_)))
  ·exact Rt Z (leaf (val0:=vI 3) (by kernel_rfl) (li (by exact (ce_val h1 h2 h3 (namE_ok fun j hj=>hI0.2 j (by omega)) (valE_no (k:=i) (by omega) (by assumption))).symm)))
  refine E Z (B.add Z Z (by unfold R64;omega)) (pk Z (L1 (i+1) ?_ ?_ (sb Z Z Z)))
  · (refine⟨by omega,fun j hj=>?_⟩;rcases zy.1 hj with h|h;exact hI1.2 j h;subst h;assumption)
  · omega
 exact C Z (w140 e (by omega)) Z Z Z (Rt Z (leaf (val0:=vI (qF (!(txtB e)) 1)) (by kernel_rfl) (li (by exact (ce_txt h1 h2 h3 (namE_ok fun j hj=>hI0.2 j (by omega)) (valE_ok fun j hj=>hI1.2 j (by omega))).symm))))
end Go.Lens.Tm
end
section
namespace Go.Lens
variable [Lz]
section
variable {P:Program} {Y:Tab} [qU P Y] {nb:Nat} {s:St} {dst:Option Tmp} {ty u:TypeId} {pos:String} {af:Array Edge} {gd:Option (Nat×Bool)} {t:TypeId} {x y:Operand}
theorem B.lookK {h:Nat} {ks vs:List PV} {key z:PV} {r:Option PV} {kt et:TypeId} {kd:TypeDesc} (hx:ev1 s x=.mref h) (hm:qx s.ms h=some (.map ks vs)) (hy:ev1 s y=.pv key) (und:Y.underlying t=some (.map kt et)) (uk:Y.underlying kt=some kd)
  (hz:(Y.info? et).bind (fun i=>i.zero.bind valPV)=some z) (hpk:plainKey kd key=true) (hks:(plainKeys kd ks&&ks.length==vs.length)=true) (hr:jU key ks vs=r) :
  Body P Y nb s ⟨dst,.lookup t x y true,ty,pos,af,gd⟩ (.tup [.pv (r.getD z),lit (.bool r.isSome)]) [] [h]:=by
 subst hr
 refine .inr (Zp.of fun σ G a w hv hl I=>?_)
 have hX:=hv x (by simp[Op.operands])
 have hY:=hv y (by simp[Op.operands])
 rw[hx] at hX;rw[hy] at hY
 have hlk:qx σ.ms h=some (.map ks vs):=by rw[hl h (.inl (by simp))];exact hm
 have hq:kZ Y t (mapOf (qx σ.ms) (.mref h)) (.pv key) true=some (true,.tup [.pv ((jU key ks vs).getD z),lit (.bool (jU key ks vs).isSome)]):=by
  have hmo:mapOf (qx σ.ms) (.mref h)=.pv (.map ks vs):=by simp only[mapOf,hlk]
  rw[hmo]
  simp only[kZ,und,uk,hz,hpk,qq,hks]
 obtain⟨r,h1,h2⟩:=lookupW_sound (P:=P) I.ctxS.sees hq hX hY
 refine⟨r,w,G,.inl ?_,qL I.ctxS h2 (fun k hk=>by simp[DV.refs,DV.qT,lit] at hk)⟩
 simp only[execOp,qu,h1,qt,qw]
end
end Go.Lens
end
section
namespace Go.Lens.Tm
open Go.Lens.Tb Go.Proofs
variable [Lz]
def rowK (a b:Int) (t e:PV):PV:=.agg [pI a,pI b,t,e]
abbrev fK (f:FuncId):PV:=.fn (.func f) [] []
def kindsK:List PV:=[pS (bsO kTar),pS (bsO jV),pS (bsO ZN),pS (bsO kObs),pS (bsO kCal),pS (bsO Z5)]
def kindsV:List PV:=[rowK 1 7 (fK 204) (fK 205),rowK 1 1 (fK 204) (fK 206),rowK 0 1 (fK 207) (fK 208),rowK 1 1 (fK 204) (fK 209),rowK 1 2 (fK 210) (fK 211),rowK 0 0 (fK 204) (.lit .nilFunc)]
theorem kinds_run:orc 60 152 2000 [] []=some (.mref 2003,[(2003,.map kindsK kindsV)]):=by kernel_rfl
theorem w152 (hp:qH) (hm:HMa):q6 Tryz.prog 152 [] (qx []) (.mref 2003) [(2003,.map kindsK kindsV)]:=orc_ok hp hm 60 152 2000 _ _ _ _ kinds_run
theorem beq_bs (a b:List UInt8):((bsO a).toList==(bsO b).toList)=decide (a=b):=by
 rw[zM];simp[toList_inj,bsO_inj]
theorem find_k (k:List UInt8):jU (pS (bsO k)) kindsK kindsV =
  if k=kTar then some (rowK 1 7 (fK 204) (fK 205)) else if k=jV then some (rowK 1 1 (fK 204) (fK 206)) else if k=ZN then some (rowK 0 1 (fK 207) (fK 208)) else if k=kObs then some (rowK 1 1 (fK 204) (fK 209)) else if k=kCal then some (rowK 1 2 (fK 210) (fK 211)) else if k=Z5 then some (rowK 0 0 (fK 204) (.lit .nilFunc)) else none:=by
 simp only[kindsK,kindsV,jU,beq_bs,zf]
def f3 (e:Ev):Int:=qP [qG e.1 1 1000,qF (!(kD e.2.1).2.2) 13,qF (shpB e) 2]
section
variable {e:Ev} {a b:Int} {c:Bool}
theorem f3_eq (h:kD e.2.1=(a,b,c)):qP [qG e.1 1 1000,qF (!c) 13,qF (bif (decide ((e.2.2.1.length:Int)≠a)) then true else (decide ((e.2.2.2.1.length:Int)≠b))) 2]=f3 e:=by
 rw[f3,<-shp_b,h]
theorem firstF_app:∀ (l r:List Int),qP (l++r)=if qP l=0 then qP r else qP l
 | [],r=>by rw[zW];exact (if_pos Z).symm
 | x::l,r=>by
  rw[zQ,j4,j4]
  by_cases h:x=0
  ·simp only[h,qq];exact firstF_app l r
  simp only[h,qr]
theorem chk_f3 (e:Ev):jp e=if f3 e=0 then qP [namE e.2.2.1,valE e.2.2.2.1,qF (!txtB e) 1] else f3 e:=firstF_app [_,_,_] [_,_,_]
theorem f3_no (h:f3 e≠0):jp e=f3 e:=by rw[chk_f3,if_neg h]
theorem f3_unk (h:kD e.2.1=(a,b,false)):f3 e≠0:=by
 rw[f3,h,j4,j4]
 by_cases h1:qG e.1 1 1000=0
 ·rw[if_pos h1]
  show (if (13:Int)=0 then _ else (13:Int))≠0
  simp
 rw[if_neg h1];exact h1
theorem when8 {x:Bool} (h:qF x 8≠0):x=true/\qF x 8=8:=by
 cases x
 ·exact absurd Z h
 exact⟨rfl,rfl⟩
theorem when80 {x:Bool} (h:¬qF x 8≠0):x=false:=by
 cases x
 ·rfl
 exact absurd (by decide) h
theorem with3 {n x y:Int} (h:qG n x y≠0):Zw n x y=true/\qG n x y=3:=by
 cases hq:Zw n x y
 ·exact absurd (with_in hq) h
 exact⟨rfl,with_out hq⟩
theorem with30 {n x y:Int} (h:¬qG n x y≠0):Zw n x y=false:=by
 cases hq:Zw n x y
 ·rfl
 exact absurd (by rw[with_out hq];decide) h
variable (h:¬f3 e≠0)
include h
theorem pe_nam {k:Nat} (hk:k<e.2.2.1.length) (h4:qF (!(qV (bsO (e.2.2.1.getD k [])))) 8≠0):jp e=qF (!(qV (bsO (e.2.2.1.getD k [])))) 8:=by
 have:=when8 h4
 rw[this.2,chk_f3,if_pos (zi.1 h),j4,namE_no hk (bn_f this.1)];rfl
theorem pe_val (h4:∀ j,j<e.2.2.1.length->qV (bsO (e.2.2.1.getD j []))=true) {k:Nat} (hk:k<e.2.2.2.1.length) (h5:qG (e.2.2.2.1.getD k 0) 0 999999999≠0):jp e=qG (e.2.2.2.1.getD k 0) 0 999999999:=by
 have:=with3 h5
 rw[this.2,chk_f3,if_pos (zi.1 h),j4,namE_ok h4,if_pos rfl,j4,valE_no hk this.1];rfl
theorem pe_txt (h4:∀ j,j<e.2.2.1.length->qV (bsO (e.2.2.1.getD j []))=true) (h5:∀ j,j<e.2.2.2.1.length->Zw (e.2.2.2.1.getD j 0) 0 999999999=false):jp e=qF (!txtB e) 1:=by
 rw[chk_f3,if_pos (zi.1 h),j4,namE_ok h4,if_pos rfl,j4,valE_ok h5,if_pos rfl]
 exact ZV _
end
theorem txt_run {e:Ev} (h:e.2.1=ZN):txtB e=scrB e.2.2.2.2:=by rw[txtB,if_pos h]
theorem txt_cal {e:Ev} (h:e.2.1=kCal):txtB e=fldB e.2.2.2.2:=by rw[txtB,if_neg (by rw[h];decide),if_pos h]
theorem txt_no {e:Ev} (h:e.2.1≠ZN) (h1:e.2.1≠kCal):txtB e=decide (e.2.2.2.2=[]):=by rw[txtB,if_neg h,if_neg h1]
end Go.Lens.Tm
end
section
namespace Go.Lens.Tm
open Go.Lens.Tb Go.Proofs
variable [Lz]
set_option maxHeartbeats 4000000
set_option maxRecDepth 100000
attribute [local irreducible] TK PK T RG EfR Body CG
theorem fa254_1:fadQ tab 254 1=some 1:=by kernel_rfl
theorem un256:tab.underlying 256=some (.map 9 254):=by kernel_rfl
theorem w81a (hp:qH) (he:je) (hm:HMa) (hj:jE) (hj2:jl) (e:Ev) (a b:Int) (z:PV) (hl:e.2.2.2.2.length<=4000) (hn:e.2.2.1.length<=1000000000) (hv:e.2.2.2.1.length<=1000000000) (hf:jU (pS (bsO e.2.1)) kindsK kindsV=some (rowK a b (fK 204) z)) (hfr:kD e.2.1=(a,b,true)) (hk1:e.2.1≠ZN) (hk2:e.2.1≠kCal):CKa 81 [.pv (.agg [pI e.1,pS (bsO e.2.1),pL eN e.2.2.1,pL eI e.2.2.2.1,pS (bsO e.2.2.2.2)])] (vI (jp e)):=by
 refine cG qf81 Z (nB Z) Z (E Z (B.kU (l:=[]) (w152 hp hm) Z Z trivial Z Z) (E Z (B.lookK (z:=rowK 0 0 (.lit .nilFunc) (.lit .nilFunc)) Z Z Z un256 un9 (by kernel_rfl) Z (by kernel_rfl) hf) (Dr Z (by kernel_rfl) (C Z (w99 e.1 1 1000) Z Z Z (C Z (w101 (!true) 13) Z Z Z (E Z (B.jh Z ji) (Eg Z Z (fun hc=>B.Z9 Z fa119_3 Z) Z (Eg Z Z (fun hc=>B.jP (qy Z hc) Z Z ag22 sz22 Z) Z (Eg Z Z (fun hc=>B.jh (qy Z hc) ku) Z (Eg Z Z (fun hc=>B.Z9 Z fa254_1 Z) Z (Eg Z Z (fun hc=>B.jP (qy Z hc) Z Z ag3 sz3 Z) Z (Eg Z Z (fun hc=>B.neq (qy Z hc) (qy Z hc)) Z (E Z (B.pick Z Z Z Z (gdB Z) (q7 _)) ?_)))))))))))))
 refine C Z (w101 (bif (decide ((e.2.2.1.length:Int)≠a)) then true else (decide ((e.2.2.2.1.length:Int)≠b))) 2) Z Z Z (E Z (B.jj (val:=.pv (.slice (List.map eI [(qG e.1 1 1000),(qF (!true) 13),(qF (bif (decide ((e.2.2.1.length:Int)≠a)) then true else (decide ((e.2.2.2.1.length:Int)≠b))) 2)]))) Z (fun l=>Frz.arr l _ _ _ _ _) Z) (C Z (w100 [(qG e.1 1 1000),(qF (!true) 13),(qF (bif (decide ((e.2.2.1.length:Int)≠a)) then true else (decide ((e.2.2.2.1.length:Int)≠b))) 2)] (nB Z)) Z Z Z (Dr Z (by kernel_rfl) ?_)))
 refine tk 3 Z ?_
 refine tn ⟨[(1,.bref 2 0),(3,.bref 4 0),(5,vI (qP [(qG e.1 1 1000),(qF (!true) 13),(qF (bif (decide ((e.2.2.1.length:Int)≠a)) then true else (decide ((e.2.2.2.1.length:Int)≠b))) 2)]))],[(2,.box 119 [vI e.1,vS (bsO e.2.1),vL eN e.2.2.1,vL eI e.2.2.2.1,vS (bsO e.2.2.2.2)]),(4,.box 254 [vI a,vI b,.pv (.fn (.func 204) [] []),.pv (z)])]⟩ rfl rfl Z ?_
 rw[f3_eq hfr]
 refine kc (Cp Z Z (fun h1=>?_) (fun h1=>?_))
 ·exact Rt Z (leaf (val0:=vI (f3 e)) (by kernel_rfl) (li (by exact (f3_no h1).symm)))
 refine E Z (B.jh Z ji) (l1 (fun (k:Nat)=>[(1,.bref 2 0),(3,.bref 4 0),(46,vL eN e.2.2.1),(47,vI (e.2.2.1.length:Int)),(48,vI k)]) (fun _=>[(2,.box 119 [vI e.1,vS (bsO e.2.1),vL eN e.2.2.1,vL eI e.2.2.2.1,vS (bsO e.2.2.2.2)]),(4,.box 254 [vI a,vI b,.pv (.fn (.func 204) [] []),.pv (z)])]) (fun k=>k<=e.2.2.1.length/\∀ j,j<k->qV (bsO (e.2.2.1.getD j []))=true) (fun k=>e.2.2.1.length-k) 0 Z ?_ (sb Z Z Z) ?_)
 · exact⟨zq _,fun j hj=>by omega⟩
 intro k hI0
 refine Cp Z Z (fun h2=>?_) (fun h2=>?_)
 ·refine E Z (B.idx (z:=[]) (i:=k) Z Z ji sz9 (fun _=>rfl) Z (by omega)) (C Z (w104 (bsO (e.2.2.1.getD k []))) Z Z Z (Cp Z Z (fun h3=>?_) (fun h3=>?_)))
  ·exact Rt Z (leaf (val0:=vI (qF (!(qV (bsO (e.2.2.1.getD k [])))) 8)) (by kernel_rfl) (li (by exact (pe_nam h1 (by omega) (by assumption)).symm)))
  refine E Z (B.add Z Z (by unfold R64;omega)) (pk Z (L1 (k+1) ?_ ?_ (sb Z Z Z)))
  · (refine⟨by omega,fun j hj=>?_⟩;rcases zy.1 hj with h|h;exact hI0.2 j h;subst h;exact bn_t (when80 (by assumption)))
  · omega
 refine E Z (B.jh Z ku) (l1 (fun (i:Nat)=>[(1,.bref 2 0),(3,.bref 4 0),(59,vL eI e.2.2.2.1),(60,vI (e.2.2.2.1.length:Int)),(61,vI i)]) (fun _=>[(2,.box 119 [vI e.1,vS (bsO e.2.1),vL eN e.2.2.1,vL eI e.2.2.2.1,vS (bsO e.2.2.2.2)]),(4,.box 254 [vI a,vI b,.pv (.fn (.func 204) [] []),.pv (z)])]) (fun i=>i<=e.2.2.2.1.length/\∀ j,j<i->Zw (e.2.2.2.1.getD j 0) 0 999999999=false) (fun i=>e.2.2.2.1.length-i) 0 Z ?_ (sb Z Z Z) ?_)
 · exact⟨zq _,fun j hj=>by omega⟩
 intro i hI1
 refine Cp Z Z (fun h4=>?_) (fun h4=>?_)
 ·refine E Z (B.idx (z:=0) (i:=i) Z Z ku sz3 (fun _=>rfl) Z (by omega)) (C Z (w99 (e.2.2.2.1.getD i 0) 0 999999999) Z Z Z (Cp Z Z (fun h5=>?_) (fun h5=>?_)))
  ·exact Rt Z (leaf (val0:=vI (qG (e.2.2.2.1.getD i 0) 0 999999999)) (by kernel_rfl) (li (by exact (pe_val h1 (fun j hj=>hI0.2 j (by omega)) (by omega) (by assumption)).symm)))
  refine E Z (B.add Z Z (by unfold R64;omega)) (pk Z (L1 (i+1) ?_ ?_ (sb Z Z Z)))
  · (refine⟨by omega,fun j hj=>?_⟩;rcases zy.1 hj with h|h;exact hI1.2 j h;subst h;exact with30 (by assumption))
  · omega
 exact C Z (w204 e.2.2.2.2) Z Z Z (C Z (w101 (!(decide (e.2.2.2.2=[]))) 1) Z Z Z (Rt Z (leaf (val0:=vI (qF (!(decide (e.2.2.2.2=[]))) 1)) (by kernel_rfl) (li (by (rw[pe_txt h1 (fun j hj=>hI0.2 j (by omega)) (fun j hj=>hI1.2 j (by omega)),txt_no hk1 hk2]))))))
theorem w81b (hp:qH) (he:je) (hm:HMa) (hj:jE) (hj2:jl) (e:Ev) (a b:Int) (z:PV) (hl:e.2.2.2.2.length<=4000) (hn:e.2.2.1.length<=1000000000) (hv:e.2.2.2.1.length<=1000000000) (hf:jU (pS (bsO e.2.1)) kindsK kindsV=some (rowK a b (fK 207) z)) (hfr:kD e.2.1=(a,b,true)) (hk1:e.2.1=ZN):CKa 81 [.pv (.agg [pI e.1,pS (bsO e.2.1),pL eN e.2.2.1,pL eI e.2.2.2.1,pS (bsO e.2.2.2.2)])] (vI (jp e)):=by
 refine cG qf81 Z (nB Z) Z (E Z (B.kU (l:=[]) (w152 hp hm) Z Z trivial Z Z) (E Z (B.lookK (z:=rowK 0 0 (.lit .nilFunc) (.lit .nilFunc)) Z Z Z un256 un9 (by kernel_rfl) Z (by kernel_rfl) hf) (Dr Z (by kernel_rfl) (C Z (w99 e.1 1 1000) Z Z Z (C Z (w101 (!true) 13) Z Z Z (E Z (B.jh Z ji) (Eg Z Z (fun hc=>B.Z9 Z fa119_3 Z) Z (Eg Z Z (fun hc=>B.jP (qy Z hc) Z Z ag22 sz22 Z) Z (Eg Z Z (fun hc=>B.jh (qy Z hc) ku) Z (Eg Z Z (fun hc=>B.Z9 Z fa254_1 Z) Z (Eg Z Z (fun hc=>B.jP (qy Z hc) Z Z ag3 sz3 Z) Z (Eg Z Z (fun hc=>B.neq (qy Z hc) (qy Z hc)) Z (E Z (B.pick Z Z Z Z (gdB Z) (q7 _)) ?_)))))))))))))
 refine C Z (w101 (bif (decide ((e.2.2.1.length:Int)≠a)) then true else (decide ((e.2.2.2.1.length:Int)≠b))) 2) Z Z Z (E Z (B.jj (val:=.pv (.slice (List.map eI [(qG e.1 1 1000),(qF (!true) 13),(qF (bif (decide ((e.2.2.1.length:Int)≠a)) then true else (decide ((e.2.2.2.1.length:Int)≠b))) 2)]))) Z (fun l=>Frz.arr l _ _ _ _ _) Z) (C Z (w100 [(qG e.1 1 1000),(qF (!true) 13),(qF (bif (decide ((e.2.2.1.length:Int)≠a)) then true else (decide ((e.2.2.2.1.length:Int)≠b))) 2)] (nB Z)) Z Z Z (Dr Z (by kernel_rfl) ?_)))
 refine tk 3 Z ?_
 refine tn ⟨[(1,.bref 2 0),(3,.bref 4 0),(5,vI (qP [(qG e.1 1 1000),(qF (!true) 13),(qF (bif (decide ((e.2.2.1.length:Int)≠a)) then true else (decide ((e.2.2.2.1.length:Int)≠b))) 2)]))],[(2,.box 119 [vI e.1,vS (bsO e.2.1),vL eN e.2.2.1,vL eI e.2.2.2.1,vS (bsO e.2.2.2.2)]),(4,.box 254 [vI a,vI b,.pv (.fn (.func 207) [] []),.pv (z)])]⟩ rfl rfl Z ?_
 rw[f3_eq hfr]
 refine kc (Cp Z Z (fun h1=>?_) (fun h1=>?_))
 ·exact Rt Z (leaf (val0:=vI (f3 e)) (by kernel_rfl) (li (by exact (f3_no h1).symm)))
 refine E Z (B.jh Z ji) (l1 (fun (k:Nat)=>[(1,.bref 2 0),(3,.bref 4 0),(46,vL eN e.2.2.1),(47,vI (e.2.2.1.length:Int)),(48,vI k)]) (fun _=>[(2,.box 119 [vI e.1,vS (bsO e.2.1),vL eN e.2.2.1,vL eI e.2.2.2.1,vS (bsO e.2.2.2.2)]),(4,.box 254 [vI a,vI b,.pv (.fn (.func 207) [] []),.pv (z)])]) (fun k=>k<=e.2.2.1.length/\∀ j,j<k->qV (bsO (e.2.2.1.getD j []))=true) (fun k=>e.2.2.1.length-k) 0 Z ?_ (sb Z Z Z) ?_)
 · exact⟨zq _,fun j hj=>by omega⟩
 intro k hI0
 refine Cp Z Z (fun h2=>?_) (fun h2=>?_)
 ·refine E Z (B.idx (z:=[]) (i:=k) Z Z ji sz9 (fun _=>rfl) Z (by omega)) (C Z (w104 (bsO (e.2.2.1.getD k []))) Z Z Z (Cp Z Z (fun h3=>?_) (fun h3=>?_)))
  ·exact Rt Z (leaf (val0:=vI (qF (!(qV (bsO (e.2.2.1.getD k [])))) 8)) (by kernel_rfl) (li (by exact (pe_nam h1 (by omega) (by assumption)).symm)))
  refine E Z (B.add Z Z (by unfold R64;omega)) (pk Z (L1 (k+1) ?_ ?_ (sb Z Z Z)))
  · (refine⟨by omega,fun j hj=>?_⟩;rcases zy.1 hj with h|h;exact hI0.2 j h;subst h;exact bn_t (when80 (by assumption)))
  · omega
 refine E Z (B.jh Z ku) (l1 (fun (i:Nat)=>[(1,.bref 2 0),(3,.bref 4 0),(59,vL eI e.2.2.2.1),(60,vI (e.2.2.2.1.length:Int)),(61,vI i)]) (fun _=>[(2,.box 119 [vI e.1,vS (bsO e.2.1),vL eN e.2.2.1,vL eI e.2.2.2.1,vS (bsO e.2.2.2.2)]),(4,.box 254 [vI a,vI b,.pv (.fn (.func 207) [] []),.pv (z)])]) (fun i=>i<=e.2.2.2.1.length/\∀ j,j<i->Zw (e.2.2.2.1.getD j 0) 0 999999999=false) (fun i=>e.2.2.2.1.length-i) 0 Z ?_ (sb Z Z Z) ?_)
 · exact⟨zq _,fun j hj=>by omega⟩
 intro i hI1
 refine Cp Z Z (fun h4=>?_) (fun h4=>?_)
 ·refine E Z (B.idx (z:=0) (i:=i) Z Z ku sz3 (fun _=>rfl) Z (by omega)) (C Z (w99 (e.2.2.2.1.getD i 0) 0 999999999) Z Z Z (Cp Z Z (fun h5=>?_) (fun h5=>?_)))
  ·exact Rt Z (leaf (val0:=vI (qG (e.2.2.2.1.getD i 0) 0 999999999)) (by kernel_rfl) (li (by exact (pe_val h1 (fun j hj=>hI0.2 j (by omega)) (by omega) (by assumption)).symm)))
  refine E Z (B.add Z Z (by unfold R64;omega)) (pk Z (L1 (i+1) ?_ ?_ (sb Z Z Z)))
  · (refine⟨by omega,fun j hj=>?_⟩;rcases zy.1 hj with h|h;exact hI1.2 j h;subst h;exact with30 (by assumption))
  · omega
 exact C Z (w207 hp he hj2 e.2.2.2.2 (by omega)) Z Z Z (C Z (w101 (!(scrB e.2.2.2.2)) 1) Z Z Z (Rt Z (leaf (val0:=vI (qF (!(scrB e.2.2.2.2)) 1)) (by kernel_rfl) (li (by (rw[pe_txt h1 (fun j hj=>hI0.2 j (by omega)) (fun j hj=>hI1.2 j (by omega)),txt_run hk1]))))))
theorem w81c (hp:qH) (he:je) (hm:HMa) (hj:jE) (hj2:jl) (e:Ev) (a b:Int) (z:PV) (hl:e.2.2.2.2.length<=4000) (hn:e.2.2.1.length<=1000000000) (hv:e.2.2.2.1.length<=1000000000) (hf:jU (pS (bsO e.2.1)) kindsK kindsV=some (rowK a b (fK 210) z)) (hfr:kD e.2.1=(a,b,true)) (hk1:e.2.1=kCal):CKa 81 [.pv (.agg [pI e.1,pS (bsO e.2.1),pL eN e.2.2.1,pL eI e.2.2.2.1,pS (bsO e.2.2.2.2)])] (vI (jp e)):=by
 refine cG qf81 Z (nB Z) Z (E Z (B.kU (l:=[]) (w152 hp hm) Z Z trivial Z Z) (E Z (B.lookK (z:=rowK 0 0 (.lit .nilFunc) (.lit .nilFunc)) Z Z Z un256 un9 (by kernel_rfl) Z (by kernel_rfl) hf) (Dr Z (by kernel_rfl) (C Z (w99 e.1 1 1000) Z Z Z (C Z (w101 (!true) 13) Z Z Z (E Z (B.jh Z ji) (Eg Z Z (fun hc=>B.Z9 Z fa119_3 Z) Z (Eg Z Z (fun hc=>B.jP (qy Z hc) Z Z ag22 sz22 Z) Z (Eg Z Z (fun hc=>B.jh (qy Z hc) ku) Z (Eg Z Z (fun hc=>B.Z9 Z fa254_1 Z) Z (Eg Z Z (fun hc=>B.jP (qy Z hc) Z Z ag3 sz3 Z) Z (Eg Z Z (fun hc=>B.neq (qy Z hc) (qy Z hc)) Z (E Z (B.pick Z Z Z Z (gdB Z) (q7 _)) ?_)))))))))))))
 refine C Z (w101 (bif (decide ((e.2.2.1.length:Int)≠a)) then true else (decide ((e.2.2.2.1.length:Int)≠b))) 2) Z Z Z (E Z (B.jj (val:=.pv (.slice (List.map eI [(qG e.1 1 1000),(qF (!true) 13),(qF (bif (decide ((e.2.2.1.length:Int)≠a)) then true else (decide ((e.2.2.2.1.length:Int)≠b))) 2)]))) Z (fun l=>Frz.arr l _ _ _ _ _) Z) (C Z (w100 [(qG e.1 1 1000),(qF (!true) 13),(qF (bif (decide ((e.2.2.1.length:Int)≠a)) then true else (decide ((e.2.2.2.1.length:Int)≠b))) 2)] (nB Z)) Z Z Z (Dr Z (by kernel_rfl) ?_)))
 refine tk 3 Z ?_
 refine tn ⟨[(1,.bref 2 0),(3,.bref 4 0),(5,vI (qP [(qG e.1 1 1000),(qF (!true) 13),(qF (bif (decide ((e.2.2.1.length:Int)≠a)) then true else (decide ((e.2.2.2.1.length:Int)≠b))) 2)]))],[(2,.box 119 [vI e.1,vS (bsO e.2.1),vL eN e.2.2.1,vL eI e.2.2.2.1,vS (bsO e.2.2.2.2)]),(4,.box 254 [vI a,vI b,.pv (.fn (.func 210) [] []),.pv (z)])]⟩ rfl rfl Z ?_
 rw[f3_eq hfr]
 refine kc (Cp Z Z (fun h1=>?_) (fun h1=>?_))
 ·exact Rt Z (leaf (val0:=vI (f3 e)) (by kernel_rfl) (li (by exact (f3_no h1).symm)))
 refine E Z (B.jh Z ji) (l1 (fun (k:Nat)=>[(1,.bref 2 0),(3,.bref 4 0),(46,vL eN e.2.2.1),(47,vI (e.2.2.1.length:Int)),(48,vI k)]) (fun _=>[(2,.box 119 [vI e.1,vS (bsO e.2.1),vL eN e.2.2.1,vL eI e.2.2.2.1,vS (bsO e.2.2.2.2)]),(4,.box 254 [vI a,vI b,.pv (.fn (.func 210) [] []),.pv (z)])]) (fun k=>k<=e.2.2.1.length/\∀ j,j<k->qV (bsO (e.2.2.1.getD j []))=true) (fun k=>e.2.2.1.length-k) 0 Z ?_ (sb Z Z Z) ?_)
 · exact⟨zq _,fun j hj=>by omega⟩
 intro k hI0
 refine Cp Z Z (fun h2=>?_) (fun h2=>?_)
 ·refine E Z (B.idx (z:=[]) (i:=k) Z Z ji sz9 (fun _=>rfl) Z (by omega)) (C Z (w104 (bsO (e.2.2.1.getD k []))) Z Z Z (Cp Z Z (fun h3=>?_) (fun h3=>?_)))
  ·exact Rt Z (leaf (val0:=vI (qF (!(qV (bsO (e.2.2.1.getD k [])))) 8)) (by kernel_rfl) (li (by exact (pe_nam h1 (by omega) (by assumption)).symm)))
  refine E Z (B.add Z Z (by unfold R64;omega)) (pk Z (L1 (k+1) ?_ ?_ (sb Z Z Z)))
  · (refine⟨by omega,fun j hj=>?_⟩;rcases zy.1 hj with h|h;exact hI0.2 j h;subst h;exact bn_t (when80 (by assumption)))
  · omega
 refine E Z (B.jh Z ku) (l1 (fun (i:Nat)=>[(1,.bref 2 0),(3,.bref 4 0),(59,vL eI e.2.2.2.1),(60,vI (e.2.2.2.1.length:Int)),(61,vI i)]) (fun _=>[(2,.box 119 [vI e.1,vS (bsO e.2.1),vL eN e.2.2.1,vL eI e.2.2.2.1,vS (bsO e.2.2.2.2)]),(4,.box 254 [vI a,vI b,.pv (.fn (.func 210) [] []),.pv (z)])]) (fun i=>i<=e.2.2.2.1.length/\∀ j,j<i->Zw (e.2.2.2.1.getD j 0) 0 999999999=false) (fun i=>e.2.2.2.1.length-i) 0 Z ?_ (sb Z Z Z) ?_)
 · exact⟨zq _,fun j hj=>by omega⟩
 intro i hI1
 refine Cp Z Z (fun h4=>?_) (fun h4=>?_)
 ·refine E Z (B.idx (z:=0) (i:=i) Z Z ku sz3 (fun _=>rfl) Z (by omega)) (C Z (w99 (e.2.2.2.1.getD i 0) 0 999999999) Z Z Z (Cp Z Z (fun h5=>?_) (fun h5=>?_)))
  ·exact Rt Z (leaf (val0:=vI (qG (e.2.2.2.1.getD i 0) 0 999999999)) (by kernel_rfl) (li (by exact (pe_val h1 (fun j hj=>hI0.2 j (by omega)) (by omega) (by assumption)).symm)))
  refine E Z (B.add Z Z (by unfold R64;omega)) (pk Z (L1 (i+1) ?_ ?_ (sb Z Z Z)))
  · (refine⟨by omega,fun j hj=>?_⟩;rcases zy.1 hj with h|h;exact hI1.2 j h;subst h;exact with30 (by assumption))
  · omega
 exact C Z (w210 hp hj e.2.2.2.2 (by omega)) Z Z Z (C Z (w101 (!(fldB e.2.2.2.2)) 1) Z Z Z (Rt Z (leaf (val0:=vI (qF (!(fldB e.2.2.2.2)) 1)) (by kernel_rfl) (li (by (rw[pe_txt h1 (fun j hj=>hI0.2 j (by omega)) (fun j hj=>hI1.2 j (by omega)),txt_cal hk1]))))))
theorem w81n (hp:qH) (he:je) (hm:HMa) (hj:jE) (hj2:jl) (e:Ev) (hl:e.2.2.2.2.length<=4000) (hn:e.2.2.1.length<=1000000000) (hv:e.2.2.2.1.length<=1000000000) (hf:jU (pS (bsO e.2.1)) kindsK kindsV=none) (hfr:kD e.2.1=(0,0,false)):CKa 81 [.pv (.agg [pI e.1,pS (bsO e.2.1),pL eN e.2.2.1,pL eI e.2.2.2.1,pS (bsO e.2.2.2.2)])] (vI (jp e)):=by
 refine cG qf81 Z (nB Z) Z (E Z (B.kU (l:=[]) (w152 hp hm) Z Z trivial Z Z) (E Z (B.lookK (z:=rowK 0 0 (.lit .nilFunc) (.lit .nilFunc)) Z Z Z un256 un9 (by kernel_rfl) Z (by kernel_rfl) hf) (Dr Z (by kernel_rfl) (C Z (w99 e.1 1 1000) Z Z Z (C Z (w101 (!false) 13) Z Z Z (E Z (B.jh Z ji) (Eg Z Z (fun hc=>B.Z9 Z fa119_3 Z) Z (Eg Z Z (fun hc=>B.jP (qy Z hc) Z Z ag22 sz22 Z) Z (Eg Z Z (fun hc=>B.jh (qy Z hc) ku) Z (Eg Z Z (fun hc=>B.Z9 Z fa254_1 Z) Z (Eg Z Z (fun hc=>B.jP (qy Z hc) Z Z ag3 sz3 Z) Z (Eg Z Z (fun hc=>B.neq (qy Z hc) (qy Z hc)) Z (E Z (B.pick Z Z Z Z (gdB Z) (q7 _)) ?_)))))))))))))
 refine C Z (w101 (bif (decide ((e.2.2.1.length:Int)≠0)) then true else (decide ((e.2.2.2.1.length:Int)≠0))) 2) Z Z Z (E Z (B.jj (val:=.pv (.slice (List.map eI [(qG e.1 1 1000),(qF (!false) 13),(qF (bif (decide ((e.2.2.1.length:Int)≠0)) then true else (decide ((e.2.2.2.1.length:Int)≠0))) 2)]))) Z (fun l=>Frz.arr l _ _ _ _ _) Z) (C Z (w100 [(qG e.1 1 1000),(qF (!false) 13),(qF (bif (decide ((e.2.2.1.length:Int)≠0)) then true else (decide ((e.2.2.2.1.length:Int)≠0))) 2)] (nB Z)) Z Z Z (Dr Z (by kernel_rfl) ?_)))
 refine tk 3 Z ?_
 refine tn ⟨[(1,.bref 2 0),(3,.bref 4 0),(5,vI (qP [(qG e.1 1 1000),(qF (!false) 13),(qF (bif (decide ((e.2.2.1.length:Int)≠0)) then true else (decide ((e.2.2.2.1.length:Int)≠0))) 2)]))],[(2,.box 119 [vI e.1,vS (bsO e.2.1),vL eN e.2.2.1,vL eI e.2.2.2.1,vS (bsO e.2.2.2.2)]),(4,.box 254 [vI 0,vI 0,.pv (.lit .nilFunc),.pv (.lit .nilFunc)])]⟩ rfl rfl Z ?_
 rw[f3_eq hfr]
 refine kc (Cp Z Z (fun h1=>?_) (fun h1=>?_))
 ·exact Rt Z (leaf (val0:=vI (f3 e)) (by kernel_rfl) (li (by exact (f3_no h1).symm)))
 exact absurd (f3_unk hfr) h1
end Go.Lens.Tm
end
section
namespace Go.Lens.Tm
open Go.Lens.Tb Go.Proofs
variable [Lz]
theorem w81 (hp:qH) (he:je) (hm:HMa) (hj:jE) (hj2:jl) (e:Ev) (hl:e.2.2.2.2.length<=4000) (hn:e.2.2.1.length<=1000000000) (hv:e.2.2.2.1.length<=1000000000):CKa 81 [.pv (gV e)] (vI (jp e)):=by
 by_cases h0:e.2.1=kTar
 ·exact w81a hp he hm hj hj2 e 1 7 (fK 205) hl hn hv (by rw[find_k,if_pos h0]) (frm_t h0) (by rw[h0];decide) (by rw[h0];decide)
 by_cases h1:e.2.1=jV
 ·exact w81a hp he hm hj hj2 e 1 1 (fK 206) hl hn hv (by rw[find_k,if_neg h0,if_pos h1]) (frm_a h0 h1) (by rw[h1];decide) (by rw[h1];decide)
 by_cases h2:e.2.1=kObs
 ·exact w81a hp he hm hj hj2 e 1 1 (fK 209) hl hn hv (by rw[find_k,if_neg h0,if_neg h1,if_neg (by rw[h2];decide),if_pos h2]) (frm_o h0 h1 h2) (by rw[h2];decide) (by rw[h2];decide)
 by_cases h3:e.2.1=ZN
 ·exact w81b hp he hm hj hj2 e 0 1 (fK 208) hl hn hv (by rw[find_k,if_neg h0,if_neg h1,if_pos h3]) (frm_r h0 h1 h2 h3) h3
 by_cases h4:e.2.1=kCal
 ·exact w81c hp he hm hj hj2 e 1 2 (fK 211) hl hn hv (by rw[find_k,if_neg h0,if_neg h1,if_neg h3,if_neg h2,if_pos h4]) (frm_c h0 h1 h2 h3 h4) h4
 by_cases h5:e.2.1=Z5
 ·exact w81a hp he hm hj hj2 e 0 0 (.lit .nilFunc) hl hn hv (by rw[find_k,if_neg h0,if_neg h1,if_neg h3,if_neg h2,if_neg h4,if_pos h5]) (frm_u h0 h1 h2 h3 h4 h5) h3 h4
 exact w81n hp he hm hj hj2 e hl hn hv (by rw[find_k,if_neg h0,if_neg h1,if_neg h3,if_neg h2,if_neg h4,if_neg h5]) (frm_n h0 h1 h2 h3 h4 h5)
def sumG:Int->List UInt8->Int
 | x,[]=>x
 | x,b::s=>sumG ((283*x+((b.toNat:Nat):Int))%9999889) s
def pad7 (s:List UInt8):List UInt8:=List.replicate (7-s.length) 48++s
def sumS (s:List UInt8):List UInt8:=pad7 (Lib.itoa (sumG 1 s))
structure OkE (e:Ev):Prop where
 num:1<=e.1/\e.1<=1000
 kind:(kD e.2.1).2.2=true
 klen:e.2.1.length<=9
 nlen:((e.2.2.1.length:Nat):Int)=(kD e.2.1).1/\e.2.2.1.length<=1
 vlen:((e.2.2.2.1.length:Nat):Int)=(kD e.2.1).2.1/\e.2.2.2.1.length<=7
 names:∀ w∈e.2.2.1,qV (bsO w)=true/\w.length<=24
 vals:∀ v∈e.2.2.2.1,0<=v/\v<=999999999
 text:txtB e=true
def digI (c:Int):Bool:=!(decide (c<48)||decide (57<c))
def digB (s:List UInt8):Bool:=s.all (fun b=>digI ((b.toNat:Nat):Int))&&decide ((s.length:Int)=7)
end Go.Lens.Tm
end
section
namespace Go.Lens.Tm
open Go.Lens.Tb Go.Proofs
variable [Lz]
set_option maxHeartbeats 4000000
set_option maxRecDepth 100000
attribute [local irreducible] TK PK T RG EfR Body CG
theorem jt:tab.underlying 121=some (.slice 119):=by kernel_rfl
end Go.Lens.Tm
end
section
namespace Go.Lens
variable [Lz]
theorem relDVs_at {G1 G2:Gh} {R:Rd} {h2:Nat} (hq:∀ v,qz G1 R .nils v->qz G2 R (.aref h2 0) v):∀ {ds:List DV} {c:Nat} {vs:List Value},ds[c]? =some .nils->(∀ k∈DV.qT ds,G1.keeps G2 k)->qD G1 R ds vs->qD G2 R (ds.set c (.aref h2 0)) vs
 | [],c,vs,hc,_,_=>by simp at hc
 | d::ds,0,vs,hc,hk,H=>by
  have e:d=.nils:=by simpa using hc
  subst e
  simp only[qD,List.set_cons_zero] at H ⊢
  obtain⟨v,vs',rfl,k1,k2⟩:=H
  exact⟨v,vs',rfl,hq v k1,qD.mono (Rd.Le.rfl R) ds vs' (fun k hk2=>hk k (by simp only[DV.qT,zI];exact .inr hk2)) k2⟩
 | d::ds,c+1,vs,hc,hk,H=>by
  simp only[qD,List.set_cons_succ] at H ⊢
  obtain⟨v,vs',rfl,k1,k2⟩:=H
  exact⟨v,vs',rfl,qz.mono (Rd.Le.rfl R) d v (fun k hk2=>hk k (by simp only[DV.qT,zI];exact .inl hk2)) k1,relDVs_at hq (by simpa using hc) (fun k hk2=>hk k (by simp only[DV.qT,zI];exact .inr hk2)) k2⟩
theorem wk_adoptC {nb:Nat} {s:St} {h c h2 sz:Nat} {T0 T:TypeId} {ds:List DV} (hm:qx s.ms h=some (.box T0 ds)) (hc:ds[c]? =some .nils) (hf:qx s.ms h2=none) :
  Wk nb s ⟨s.tm,(h,.box T0 (ds.set c (.aref h2 0)))::(h2,.arr 0 sz T [])::s.ms⟩:=by
 intro G a w I
 have M:=I.mem
 have hb:=M.ms _ _ hm
 have hne:h≠h2:=by rintro rfl;rw[hf] at hm;cases hm
 have L:=Later.refl G w
 have hkeep:∀ k o,qx s.ms k=some o->(G.turn h2 ⟨none,0,0,sz,0,0,true⟩).ρ k=G.ρ k:=by
  intro k o hk
  have:k≠h2:=by rintro rfl;rw[hf] at hk;cases hk
  simp only[Gh.turn,this,qr]
 have hrefs:∀ k∈DV.qT ds,∃ o,qx s.ms k=some o:=fun k hk=>M.refsM h _ k hm hk
 have S1:Stepped G w (qx s.ms) .dead [(h,.box T0 (ds.set c (.aref h2 0))),(h2,.arr 0 sz T [])] (G.turn h2 ⟨none,0,0,sz,0,0,true⟩) w undef:=by
  refine⟨⟨L.base,L.R0,L.R0c,L.R0m,L.os,L.tape,L.output,L.size,L.cold⟩,by simp only[qz],?_,?_,?_,M.fresh,fun _ _ hb=>.inr hb,fun k hk=>by simp[DV.refs] at hk,?_,fun _ _ hb=>.inl hb,fun _ _ _ _ h=>.inl h,fun _ _ _ h=>.inl h⟩
  ·intro k o hk
   simp only[zF,zu,qn,or_false] at hk
   rcases hk with ⟨rfl,rfl⟩|⟨rfl,rfl⟩
   ·simp only[jc] at hb ⊢
    obtain⟨e1,b,c1,e2,e3,e4,e5,e6⟩:=hb
    have er:=hkeep k _ hm
    refine⟨by rw[er];exact e1,b,c1,by rw[er];exact e2,e3,e4,e5,?_⟩
    exact relDVs_at (G1:=G) (fun v hv=>by
     simp only[qz] at hv
     simp only[qz,Gh.turn,qq]
     exact⟨zz _,fun _=>hv⟩) hc (fun k2 hk2=>by
     obtain⟨o,ho⟩:=hrefs k2 hk2
     exact .inl (hkeep k2 o ho)) e6
   simp only[jc,Gh.turn,qq]
   exact⟨trivial,trivial,trivial,rfl,zz _,(by simp),.inl ⟨trivial,trivial⟩⟩
  ·intro k o hk
   exact .inl (hkeep k o hk)
  ·intro k hk
   simp only[zw,zZ,zF,qn,or_false,not_or] at hk
   simp only[Gh.turn,hk.2,qr]
   exact⟨trivial,fun b hb=>⟨hb,trivial⟩⟩
  intro k o hk k2 hh
  simp only[zF,zu,qn,or_false] at hk
  rcases hk with ⟨rfl,rfl⟩|⟨rfl,rfl⟩
  ·simp only[MO.refs] at hh
   obtain⟨d,hd,hkd⟩:=jq.1 hh
   rcases List.mem_or_eq_of_mem_set hd with hd|rfl
   ·exact .inr (hrefs k2 (jq.2 ⟨d,hd,hkd⟩))
   simp only[DV.refs,zg] at hkd
   subst hkd
   exact .inl (by simp)
  simp[MO.refs] at hh
 obtain⟨I1,Sn1⟩:=I.eff (K:=nb) S1 none (by simp)
 exact⟨_,I1,Sn1⟩
theorem TK.adoptC [Fc] {P:Program} {n nb:Nat} {Q:Exit->St->Prop} {K:List Fr} {x:Code} {s:St} {T0:TypeId} {ds ds2:List DV} (h c h2 sz:Nat) (T1:TypeId) (hm:qx s.ms h=some (.box T0 ds)) (hc:ds[c]? =some .nils) (hf:qx s.ms h2=none)
  (hd:ds.set c (.aref h2 0)=ds2) (k:TK P n nb Q x K ⟨s.tm,(h,.box T0 ds2)::(h2,.arr 0 sz T1 [])::s.ms⟩):TK P n nb Q x K s:=by
 subst hd
 exact T.weak (wk_adoptC hm hc hf) k
end Go.Lens
end
section
namespace Go.Lens.Tm
open Go.Lens.Tb Go.Proofs
variable [Lz]
def splN (c:UInt8):Nat->List UInt8->List (List UInt8)
 | 0,s=>[s]
 | n+1,s=>if Lib.indexByte s c<0 then [s] else s.take (Lib.indexByte s c).toNat::splN c n (s.drop ((Lib.indexByte s c).toNat+1))
def offN:Nat->List (List UInt8)->Nat
 | 0,_=>0
 | _,[]=>0
 | n+1,w::l=>w.length+1+offN n l
def fillG (f:List UInt8->Int×Bool) (a:Nat):List (List UInt8)->List (List UInt8)->List Int->Option (List (List UInt8)×List Int)
 | [],ns,vs=>some (ns,vs)
 | w::ws,ns,vs=>if w=[] then none else if ns.length<a then fillG f a ws (ns++[w]) vs else if (f w).2=true then fillG f a ws ns (vs++[(f w).1]) else none
def intQ (s:List UInt8):Int×Bool:=((intR s).getD 0,(intR s).isSome)
def aK (k:List UInt8):Nat:=(kD k).1.toNat
def nK (k:List UInt8):Nat:=(1+(kD k).1+(kD k).2.1).toNat
def opK (k:List UInt8):Bool:=decide (k=ZN)||decide (k=kCal)
abbrev hdK (s:List UInt8):List UInt8:=(jZ s).getD 0 []
def badK (s:List UInt8):Bool:=!(kD (hdK s)).2.2||(decide ((jZ s).length<nK (hdK s))||((decide (nK (hdK s)<(jZ s).length)&&!opK (hdK s))||(decide ((jZ s).length=nK (hdK s))&&decide (hdK s=ZN))))
def txtK (s:List UInt8):List UInt8:=s.drop (offN (nK (hdK s)) (jZ s))
def readR (s:List UInt8):Ev×Bool:=if badK s=true then (zV,false) else match fillG intQ (aK (hdK s)) (((jZ s).take (nK (hdK s))).drop 1) [] [] with
 | none=>(zV,false)
 | some r=>if nK (hdK s)<(jZ s).length then (if txtK s=[] then (zV,false) else ((0,hdK s,r.1,r.2,txtK s),true)) else ((0,hdK s,r.1,r.2,[]),true)
abbrev spP (s:List UInt8):List (List UInt8):=splN 32 (nK (hdK s)) s
def readP (s:List UInt8):Ev×Bool:=if (kD (hdK s)).2.2=false then (zV,false) else if (spP s).length<nK (hdK s) then (zV,false) else match fillG intV (aK (hdK s)) (((spP s).take (nK (hdK s))).drop 1) [] [] with
 | none=>(zV,false)
 | some r=>if nK (hdK s)<(spP s).length then ((0,hdK s,r.1,r.2,(spP s).getD (nK (hdK s)) []),opK (hdK s)&&decide ((spP s).getD (nK (hdK s)) []≠[])) else ((0,hdK s,r.1,r.2,[]),decide (hdK s≠ZN))
def RdI (s:List UInt8) (L:List (List UInt8)) (f:List UInt8->Int×Bool) (n i:Nat) (ns:List (List UInt8)) (vs:List Int):Prop:=1<=i/\i<=n/\ns.length<=i/\vs.length<=i/\ns.length=min (i-1) (aK (hdK s))/\fillG f (aK (hdK s)) ((L.take n).drop 1) [] []=fillG f (aK (hdK s)) ((L.take n).drop i) ns vs
def evE (s:List UInt8):Ev:=((intV (cut3 s 32).1).1,(readP (cut3 s 32).2.1).1.2)
def evP (s:List UInt8):Bool:=(intV (cut3 s 32).1).2&&((readP (cut3 s 32).2.1).2&&decide (jp (evE s)=0))
theorem g3 {x y z:Bool} (h:(bif (bif x then y else false) then z else false)=true):x=true/\y=true/\z=true:=by
 revert h;cases x<;>cases y<;>cases z<;>decide
def evR (t:List UInt8):Ev:=((intR (cut3 t 32).1).getD 0,(readR (cut3 t 32).2.1).1.2)
def sgR (s:List UInt8):Int:=if s.length<8 then 25 else if byteAt (bsO s) (s.length-8)≠35 then 25 else if digB (s.drop (s.length-8+1))=false then 25 else if s.drop (s.length-8+1)≠sumS (s.take (s.length-8)) then 27 else 0
abbrev txR (s:List UInt8):List UInt8:=s.take (s.length-8)
def lnP (s:List UInt8) (k:Int):Ev×Int:=if sgR s≠0 then (zV,sgR s) else (evE (txR s),qP [qF (!evP (txR s)) 25,qF (decide ((evE (txR s)).1≠k)) 11])
def rcG:Nat->List UInt8->List Ev->Int->List Ev×Int×Int
 | 0,q,out,a=>(out,a,if q=[] then 0 else 28)
 | n+1,q,out,a=>if q=[] then (out,a,0) else if Lib.indexByte q 10<0 then (out,a,28) else
   if (lnP (q.take (Lib.indexByte q 10).toNat) ((out.length:Int)+1)).2≠0 then (out,a,(lnP (q.take (Lib.indexByte q 10).toNat) ((out.length:Int)+1)).2)
   else rcG n (q.drop ((Lib.indexByte q 10).toNat+1)) (out++[(lnP (q.take (Lib.indexByte q 10).toNat) ((out.length:Int)+1)).1]) (a+(Lib.indexByte q 10+1))
def rcV (s:List UInt8):List Ev×Int×Int:=if 1000000<s.length then ([],0,26) else rcG s.length s [] 0
end Go.Lens.Tm
end
section
namespace Go.Lens.Tm
open Go.Lens.Tb Go.Proofs
variable [Lz]
set_option maxRecDepth 100000
attribute [local irreducible] TK PK T RG EfR Body CG
theorem by119:ty119.info.bytes=88:=by kernel_rfl
theorem in119:tab.info? 119=some ty119.info:=by kernel_rfl
end Go.Lens.Tm
end
section
namespace Go.Lens.Tm
open Go.Lens.Tb Go.Proofs
variable [Lz]
def RcI (s:List UInt8) (p i:Nat) (out:List Ev):Prop:=p<=i/\i<=s.length/\out.length<=p/\(∀ j,j<i-p->(s.drop p).getD j 0≠10)/\∃ n,(s.drop p).length<=n/\rcV s=rcG n (s.drop p) out ((p:Nat):Int)
def shC (e:Ev):Bool:=(bif (bif (bif (decide (60<((e.2.1.length:Nat):Int))) then true else (decide (6<((e.2.2.1.length:Nat):Int)))) then true else (decide (9<((e.2.2.2.1.length:Nat):Int)))) then true else (decide (300<((e.2.2.2.2.length:Nat):Int))))
def shN (e:Ev):Bool:=e.2.2.1.all fun w=>!decide (60<((w.length:Nat):Int))
def shR (e:Ev):Bool:=bif (decide (e.2.1=ZN)&&txtB e) then !decide (40<kH (qY ZE e.2.2.2.2).1) else true
def shE (e:Ev):Bool:=bif shC e then false else (bif shN e then shR e else false)
theorem shE_bd {e:Ev} (h:shE e=true):e.2.1.length<=60/\e.2.2.1.length<=6/\e.2.2.2.1.length<=9/\e.2.2.2.2.length<=300/\∀ w∈e.2.2.1,w.length<=60:=by
 unfold shE at h
 cases hc:shC e
 ·rw[hc] at h
  cases hn:shN e
  ·rw[hn] at h;cases h
  unfold shC at hc
  simp only[jA,qc,zH] at hc
  refine⟨by omega,by omega,by omega,by omega,fun w hw=>?_⟩
  have:=zp.1 hn w hw
  simp at this
  omega
 rw[hc] at h;cases h
abbrev cR (e:Ev):Bool:=bif (decide (e.2.1=[114,117,110])) then (decide ((qF (!(txtB e)) 1)=0)) else false
theorem cR_eq (e:Ev):cR e=(decide (e.2.1=ZN)&&txtB e):=by
 show (bif (decide (e.2.1=ZN)) then (decide ((qF (!(txtB e)) 1)=0)) else false)=_
 cases decide (e.2.1=ZN)
 ·rfl
 cases txtB e<;>rfl
section
variable {e:Ev}
theorem sh_t (h:shC e=false):e.2.2.2.2.length<=300:=by
 unfold shC at h
 simp only[jA,qc,zH] at h
 omega
theorem sh_6 (h:shC e=false):e.2.2.1.length<=6:=by
 unfold shC at h
 simp only[jA,qc,zH] at h
 omega
theorem sh_k (h:cR e=true):chkS (qY ZE e.2.2.2.2).1=0:=by
 rw[cR_eq,zj] at h
 have h1:=h.2
 rw[txt_run (of_decide_eq_true h.1)] at h1
 unfold scrB at h1
 rw[par_same,zj,zj] at h1
 have h2:=of_decide_eq_true h1.2.1
 rcases parScr_all ZE e.2.2.2.2 with h3|h3
 ·rw[h3] at h2;simp at h2
 exact h3
theorem sh_c (h:shC e=true):shE e=false:=by unfold shE;rw[h];rfl
theorem sh_n {k:Nat} (hk:k<e.2.2.1.length) (h:(60:Int)<((List.length (e.2.2.1.getD k []):Nat):Int)):shE e=false:=by
 have:shN e=false:=by
  unfold shN
  rw[List.all_eq_false]
  exact⟨_,getD_mem (z:=[]) hk,by rw[zl h];decide⟩
 unfold shE;rw[this];cases shC e<;>rfl
theorem sh_r (h:cR e=true) (h7:40<kH (qY ZE e.2.2.2.2).1):shE e=false:=by
 have:shR e=false:=by unfold shR;rw[<-cR_eq,h,zl h7];rfl
 unfold shE;rw[this];cases shC e<;>cases shN e<;>rfl
theorem sh_nm (h:∀ j,j<e.2.2.1.length->¬(60:Int)<((List.length (e.2.2.1.getD j []):Nat):Int)):shN e=true:=by
 unfold shN
 rw[zp]
 intro w hw
 obtain⟨j,hj,e1⟩:=List.getElem_of_mem hw
 have h2:=h j hj
 rw[ze,zm hj,zP,e1] at h2
 rw[zk h2];rfl
theorem sh_y1 (h:shC e=false) (hn:∀ j,j<e.2.2.1.length->¬(60:Int)<((List.length (e.2.2.1.getD j []):Nat):Int)) (hc:cR e=false):shE e=true:=by
 unfold shE shR;rw[h,sh_nm hn,<-cR_eq,hc];rfl
theorem sh_y2 (h:shC e=false) (hn:∀ j,j<e.2.2.1.length->¬(60:Int)<((List.length (e.2.2.1.getD j []):Nat):Int)) (hc:cR e=true) (h7:¬40<kH (qY ZE e.2.2.2.2).1):shE e=true:=by
 unfold shE shR;rw[h,sh_nm hn,<-cR_eq,hc,zk h7];rfl
end
end Go.Lens.Tm
end
section
namespace Go.Lens.Tm
open Go.Lens.Tb Go.Proofs
def Z6:LSt->List Stp->LSt×Bool
 | s,[]=>(s,true)
 | s,p::l=>if (Zu s p.2).2≠0 then (s,false) else Z6 (Zu s p.2).1 l
end Go.Lens.Tm
end
section
namespace Go.Lens.Tm
open Go.Lens.Tb Go.Proofs
variable [Lz]
theorem w61z {l:List Cmd} (h:chkS l=0):CKa 61 [vL eC l] (vI (kH l)):=by
 obtain⟨h1,h2,h3,_⟩:=chkS_ok h
 exact w61s h1 h2 h3
abbrev idl:LSt:=([105,100,108,101],0,false,false)
section
variable {l:List Stp} {k:Nat} {a:LSt}
theorem dropP (h:k<l.length):l.drop k=l.getD k (0,[])::l.drop (k+1):=by
 rw[ze,zm h,zP]
 exact List.drop_eq_getElem_cons h
theorem fold_next (h:k<l.length) (h2:¬(Zu a (l.getD k (0,[])).2).2≠0):Z6 a (l.drop k)=Z6 (Zu a (l.getD k (0,[])).2).1 (l.drop (k+1)):=by
 rw[dropP h,Z6,if_neg h2]
theorem fold_bad (h:k<l.length) (h2:(Zu a (l.getD k (0,[])).2).2≠0):Z6 a (l.drop k)=(a,false):=by
 rw[dropP h,Z6,if_pos h2]
theorem fold_end (h:¬k<l.length):Z6 a (l.drop k)=(a,true):=by
 rw[zN (by omega),Z6]
end
structure OkL (N:Nat) (e:Ev):Prop where
 c:jp e=0
 n:e.2.2.1.length<=10
 v:e.2.2.2.1.length<=10
 t:e.2.2.2.2.length<=N
end Go.Lens.Tm
end
