/- A part of the proof of NightEventsCardSaid, without conditions. -/
import Derived.Test.YtomghboflcafbaaGreatDoorS3
import Derived.Test.YtomghboflcafbaaGreatDoorS4
import Derived.Laws.RangeAny
import Derived.Test.YtomghboflcafbaaGreatDoorS10
import Derived.Lib.Bytealg
set_option linter.unusedVariables false
set_option linter.unusedSimpArgs false
set_option linter.unusedSectionVars false
section
namespace Go.Lens
variable [Lz]
theorem bsO_size (a:List UInt8):(bsO a).size=a.length:=rfl
theorem bsO_toList (a:List UInt8):(bsO a).toList=a:=by rw[ByteArray.toList_eq];rfl
theorem bsO_append (a b:List UInt8):bsO a++bsO b=bsO (a++b):=by
 apply ByteArray.ext
 apply Array.toList_inj.1
 simp[bsO]
theorem bsO_extract (a:List UInt8) (i j:Nat):(bsO a).extract i j=bsO ((a.take j).drop i):=by
 apply ByteArray.ext
 apply Array.toList_inj.1
 simp[bsO,ByteArray.data_extract,List.drop_take]
def ltS (a b:List UInt8):Bool:=Op.bytesLess a b
def leS (a b:List UInt8):Bool:=Op.bytesLess a b||a==b
section
variable {P:Program} {Y:Tab} [qU P Y] {nb:Nat} {s:St} {dst:Option Tmp} {ty u:TypeId} {pos:String} {af:Array Edge} {gd:Option (Nat×Bool)} {t:TypeId} {x y z:Operand} {a b:List UInt8}
theorem B.catB (hx:ev1 s x=lit (.string (bsO a))) (hy:ev1 s y=lit (.string (bsO b))) (h:a.length+b.length<=9223372036854775807):Body P Y nb s ⟨dst,.binOp .add t x y u,ty,pos,af,gd⟩ (lit (.string (bsO (a++b)))) [] []:=by
 refine B.bin hx hy ?_
 show qE (some (decide ((bsO a).size+(bsO b).size<=9223372036854775807),lit (.string (bsO a++bsO b))))=_
 have:decide ((bsO a).size+(bsO b).size<=9223372036854775807)=true:=zl h
 rw[this,bsO_append];rfl
theorem B.seqB (hx:ev1 s x=lit (.string (bsO a))) (hy:ev1 s y=lit (.string (bsO b))):Body P Y nb s ⟨dst,.binOp .eql t x y u,ty,pos,af,gd⟩ (lit (.bool (decide (a=b)))) [] []:=by
 have:=B.seql (P:=P) (Y:=Y) (nb:=nb) (s:=s) (dst:=dst) (ty:=ty) (u:=u) (pos:=pos) (af:=af) (gd:=gd) (t:=t) hx hy
 rwa [show decide (bsO a=bsO b)=decide (a=b) by rw[zM];simp[bsO_inj]] at this
theorem B.sneB (hx:ev1 s x=lit (.string (bsO a))) (hy:ev1 s y=lit (.string (bsO b))):Body P Y nb s ⟨dst,.binOp .neq t x y u,ty,pos,af,gd⟩ (lit (.bool (decide (a≠b)))) [] []:=by
 have:=B.sneq (P:=P) (Y:=Y) (nb:=nb) (s:=s) (dst:=dst) (ty:=ty) (u:=u) (pos:=pos) (af:=af) (gd:=gd) (t:=t) hx hy
 rwa [show decide (bsO a≠bsO b)=decide (a≠b) by rw[zM];simp[bsO_inj]] at this
theorem B.sltB (hx:ev1 s x=lit (.string (bsO a))) (hy:ev1 s y=lit (.string (bsO b))):Body P Y nb s ⟨dst,.binOp .lss t x y u,ty,pos,af,gd⟩ (lit (.bool (ltS a b))) [] []:=by
 refine B.bin hx hy ?_
 show qE (some (true,lit (.bool (Op.bytesLess (bsO a).toList (bsO b).toList))))=_
 rw[bsO_toList,bsO_toList];rfl
theorem B.sleB (hx:ev1 s x=lit (.string (bsO a))) (hy:ev1 s y=lit (.string (bsO b))):Body P Y nb s ⟨dst,.binOp .leq t x y u,ty,pos,af,gd⟩ (lit (.bool (leS a b))) [] []:=by
 refine B.bin hx hy ?_
 show qE (some (true,lit (.bool (Op.bytesLess (bsO a).toList (bsO b).toList||(bsO a).toList==(bsO b).toList))))=_
 rw[bsO_toList,bsO_toList];rfl
theorem B.bqB {p q:Bool} (hx:ev1 s x=lit (.bool p)) (hy:ev1 s y=lit (.bool q)) (und:Y.underlying t=some .bool):Body P Y nb s ⟨dst,.binOp .eql t x y u,ty,pos,af,gd⟩ (lit (.bool (p==q))) [] []:=by
 refine B.bin hx hy ?_
 have h3:binQ Y .eql t (lit (.bool p)) (lit (.bool q))=some (true,lit (.bool (p==q))):=by
  simp only[binQ,lit,und]
 show qE (binW Y .eql t (qx []) (ZA y) (lit (.bool p)) (lit (.bool q)))=_
 have h4:binW Y .eql t (qx []) (ZA y) (lit (.bool p)) (lit (.bool q))=some (true,lit (.bool (p==q))):=by
  unfold binW
  simp only[lit] at h3 ⊢
  simp only[nilQ,nilKind,samePQ,h3]
 rw[h4];rfl
theorem B.lenB {at':TypeId} (hx:ev1 s x=lit (.string (bsO a))) (hu:Y.underlying at'=some .string):Body P Y nb s ⟨dst,.call ⟨.builtin .len,⟨[x]⟩,⟨[at']⟩⟩,ty,pos,af,gd⟩ (lit (.int .i64 ((a.length:Nat):Int))) [] []:=B.lenS hx hu
theorem B.slHB {hi:Operand} {k:IntKind} {n:Int} {j:Nat} (hx:ev1 s x=lit (.string (bsO a))) (hy:ev1 s hi=lit (.int k n)) (hu:Y.underlying t=some .string) (hn:n=(j:Int)) (hj:j<=a.length) :
 Body P Y nb s ⟨dst,.slice t x none (some hi) none,ty,pos,af,gd⟩ (lit (.string (bsO (a.take j)))) [] []:=by
 refine B.pure (lo:=0) (nm:=0) (j3 P) ?_ ?_
 ·intro z hz
  have:z=x\/z=hi:=by simpa [Op.operands] using hz
  rcases this with rfl|rfl
  ·rw[hx];rfl
  rw[hy];rfl
 have e1:evU (tmpsOf [x,hi]) s x=_:=(qV (by simp)).trans hx
 have e2:evU (tmpsOf [x,hi]) s hi=_:=(qV (by simp)).trans hy
 have hv:effV Y 0 dst (.slice t x none (some hi) none) (evU (tmpsOf [x,hi]) s) (qx [])=ZF (kM Y t (qx []) (evU (tmpsOf [x,hi]) s x) none (some (evU (tmpsOf [x,hi]) s hi)) none):=rfl
 show (match effV Y 0 dst (.slice t x none (some hi) none) (evU (tmpsOf [x,hi]) s) (qx []) with|some ⟨true,v,m⟩=>some (v,m)|_=>none)=_
 rw[hv,e1,e2]
 have hq:kM Y t (qx []) (lit (.string (bsO a))) none (some (lit (.int k n))) none=some (true,lit (.string (bsO (a.take j)))):=by
  show km Y t (qx []) (lit (.string (bsO a))) none (some (lit (.int k n))) none=_
  unfold km lit
  simp only[hu,bound,zP,Option.getD_none]
  subst hn
  have:decide ((0:Int)<=0/\(0:Int)<=(j:Int)/\(j:Int)<=((bsO a).size:Int))=true:=zl ⟨by omega,by omega,by rw[bsO_size];omega⟩
  rw[this,zU,bsO_extract];rfl
 rw[hq];rfl
theorem B.slLB {lo:Operand} {k:IntKind} {n:Int} {i:Nat} (hx:ev1 s x=lit (.string (bsO a))) (hy:ev1 s lo=lit (.int k n)) (hu:Y.underlying t=some .string) (hn:n=(i:Int)) (hi:i<=a.length) :
 Body P Y nb s ⟨dst,.slice t x (some lo) none none,ty,pos,af,gd⟩ (lit (.string (bsO (a.drop i)))) [] []:=by
 refine B.pure (lo:=0) (nm:=0) (j3 P) ?_ ?_
 ·intro z hz
  have:z=x\/z=lo:=by simpa [Op.operands] using hz
  rcases this with rfl|rfl
  ·rw[hx];rfl
  rw[hy];rfl
 have e1:evU (tmpsOf [x,lo]) s x=_:=(qV (by simp)).trans hx
 have e2:evU (tmpsOf [x,lo]) s lo=_:=(qV (by simp)).trans hy
 have hv:effV Y 0 dst (.slice t x (some lo) none none) (evU (tmpsOf [x,lo]) s) (qx [])=ZF (kM Y t (qx []) (evU (tmpsOf [x,lo]) s x) (some (evU (tmpsOf [x,lo]) s lo)) none none):=by
  show (match frzU (qx []) (refsOf (evU (tmpsOf [x,lo]) s) [x]) with
   | []=>stepV Y 0 dst (.slice t x (some lo) none none) (evU (tmpsOf [x,lo]) s) (qx []) (qx [])
   | fz=>match stepV Y 0 dst (.slice t x (some lo) none none) (evU (tmpsOf [x,lo]) s) (upd fz (qx [])) (upd fz (qx [])) with
    | some ⟨s,v,ms⟩=>some ⟨s,v,mrg ms fz⟩
    | none=>none)=_
  have hrf:refsOf (evU (tmpsOf [x,lo]) s) [x]=[]:=by simp[refsOf,e1,lit,DV.refs]
  rw[hrf];rfl
 show (match effV Y 0 dst (.slice t x (some lo) none none) (evU (tmpsOf [x,lo]) s) (qx []) with|some ⟨true,v,m⟩=>some (v,m)|_=>none)=_
 rw[hv,e1,e2]
 have hq:kM Y t (qx []) (lit (.string (bsO a))) (some (lit (.int k n))) none none=some (true,lit (.string (bsO (a.drop i)))):=by
  show km Y t (qx []) (lit (.string (bsO a))) (some (lit (.int k n))) none none=_
  unfold km lit
  simp only[hu,bound,zP,Option.getD_none]
  subst hn
  have:decide ((0:Int)<=(i:Int)/\(i:Int)<=((bsO a).size:Int)/\((bsO a).size:Int)<=((bsO a).size:Int))=true:=zl ⟨by omega,by rw[bsO_size];omega,by omega⟩
  rw[this,zU,zU,bsO_extract,bsO_size,zx (zz _)]
 rw[hq];rfl
theorem B.slMB {lo hi:Operand} {k k':IntKind} {n m:Int} {i j:Nat} (hx:ev1 s x=lit (.string (bsO a))) (hy:ev1 s lo=lit (.int k n)) (hz:ev1 s hi=lit (.int k' m)) (hu:Y.underlying t=some .string) (hn:n=(i:Int)) (hm:m=(j:Int)) (hij:i<=j) (hj:j<=a.length) :
 Body P Y nb s ⟨dst,.slice t x (some lo) (some hi) none,ty,pos,af,gd⟩ (lit (.string (bsO ((a.take j).drop i)))) [] []:=by
 refine B.pure (lo:=0) (nm:=0) (j3 P) ?_ ?_
 ·intro z hz'
  have:z=x\/z=lo\/z=hi:=by simpa [Op.operands] using hz'
  rcases this with rfl|rfl|rfl
  ·rw[hx];rfl
  ·rw[hy];rfl
  rw[hz];rfl
 have e1:evU (tmpsOf [x,lo,hi]) s x=_:=(qV (by simp)).trans hx
 have e2:evU (tmpsOf [x,lo,hi]) s lo=_:=(qV (by simp)).trans hy
 have e3:evU (tmpsOf [x,lo,hi]) s hi=_:=(qV (by simp)).trans hz
 have hv:effV Y 0 dst (.slice t x (some lo) (some hi) none) (evU (tmpsOf [x,lo,hi]) s) (qx [])=ZF (kM Y t (qx []) (evU (tmpsOf [x,lo,hi]) s x) (some (evU (tmpsOf [x,lo,hi]) s lo)) (some (evU (tmpsOf [x,lo,hi]) s hi)) none):=by
  show (match frzU (qx []) (refsOf (evU (tmpsOf [x,lo,hi]) s) [x]) with
   | []=>stepV Y 0 dst (.slice t x (some lo) (some hi) none) (evU (tmpsOf [x,lo,hi]) s) (qx []) (qx [])
   | fz=>match stepV Y 0 dst (.slice t x (some lo) (some hi) none) (evU (tmpsOf [x,lo,hi]) s) (upd fz (qx [])) (upd fz (qx [])) with
    | some ⟨s,v,ms⟩=>some ⟨s,v,mrg ms fz⟩
    | none=>none)=_
  have hrf:refsOf (evU (tmpsOf [x,lo,hi]) s) [x]=[]:=by simp[refsOf,e1,lit,DV.refs]
  rw[hrf];rfl
 show (match effV Y 0 dst (.slice t x (some lo) (some hi) none) (evU (tmpsOf [x,lo,hi]) s) (qx []) with|some ⟨true,v,m⟩=>some (v,m)|_=>none)=_
 rw[hv,e1,e2,e3]
 have hq:kM Y t (qx []) (lit (.string (bsO a))) (some (lit (.int k n))) (some (lit (.int k' m))) none=some (true,lit (.string (bsO ((a.take j).drop i)))):=by
  show km Y t (qx []) (lit (.string (bsO a))) (some (lit (.int k n))) (some (lit (.int k' m))) none=_
  unfold km lit
  simp only[hu,bound,zP]
  subst hn;subst hm
  have:decide ((0:Int)<=(i:Int)/\(i:Int)<=(j:Int)/\(j:Int)<=((bsO a).size:Int))=true:=zl ⟨by omega,by omega,by rw[bsO_size];omega⟩
  rw[this,zU,zU,bsO_extract]
 rw[hq];rfl
theorem B.st2neq {a b c d:List UInt8} (hx:ev1 s x=.pv (.agg [.lit (.string (bsO a)),.lit (.string (bsO b))])) (hy:ev1 s y=.pv (.agg [.lit (.string (bsO c)),.lit (.string (bsO d))])) (hf:flatEq Y t=some [.string,.string]) :
 Body P Y nb s ⟨dst,.binOp .neq t x y u,ty,pos,af,gd⟩ (lit (.bool (!(decide (a=c)&&decide (b=d))))) [] []:=by
 refine B.bin hx hy ?_
 have h1:decide (a=c)=((bsO a).toList==(bsO c).toList):=by rw[zM];simp[toList_inj,bsO_inj]
 have h2:decide (b=d)=((bsO b).toList==(bsO d).toList):=by rw[zM];simp[toList_inj,bsO_inj]
 have h3:binQ Y .neq t (.pv (.agg [.lit (.string (bsO a)),.lit (.string (bsO b))])) (.pv (.agg [.lit (.string (bsO c)),.lit (.string (bsO d))]))=some (true,lit (.bool (!(decide (a=c)&&decide (b=d))))):=by
  simp only[binQ,hf,eqVs,eqV,h1,h2,Bool.and_true]
 show qE (binW Y .neq t (qx []) (ZA y) _ _)=_
 have h4:binW Y .neq t (qx []) (ZA y) (.pv (.agg [.lit (.string (bsO a)),.lit (.string (bsO b))])) (.pv (.agg [.lit (.string (bsO c)),.lit (.string (bsO d))]))=some (true,lit (.bool (!(decide (a=c)&&decide (b=d))))):=by
  unfold binW
  simp only[nilQ,nilKind,samePQ,h3]
 rw[h4];rfl
theorem B.slDL {α:Type} {enc:α->List PV} {l:List α} {lo:Operand} {k:IntKind} {n:Int} {i:Nat} {e:TypeId} {sz:Nat} (hx:ev1 s x=.pv (.slice (l.map enc))) (hy:ev1 s lo=lit (.int k n)) (hu:Y.underlying t=some (.slice e)) (hs:szT Y e=some sz) (hsz:∀ a,(enc a).length=sz) (hn:n=(i:Int)) (hi:i<=l.length) :
 Body P Y nb s ⟨dst,.slice t x (some lo) none none,ty,pos,af,gd⟩ (.pv (.slice ((l.drop i).map enc))) [] []:=by
 refine B.pure (lo:=0) (nm:=0) (j3 P) ?_ ?_
 ·intro z hz
  have:z=x\/z=lo:=by simpa [Op.operands] using hz
  rcases this with rfl|rfl
  ·rw[hx];rfl
  rw[hy];rfl
 have e1:evU (tmpsOf [x,lo]) s x=_:=(qV (by simp)).trans hx
 have e2:evU (tmpsOf [x,lo]) s lo=_:=(qV (by simp)).trans hy
 have hv:effV Y 0 dst (.slice t x (some lo) none none) (evU (tmpsOf [x,lo]) s) (qx [])=ZF (kM Y t (qx []) (evU (tmpsOf [x,lo]) s x) (some (evU (tmpsOf [x,lo]) s lo)) none none):=by
  show (match frzU (qx []) (refsOf (evU (tmpsOf [x,lo]) s) [x]) with
   | []=>stepV Y 0 dst (.slice t x (some lo) none none) (evU (tmpsOf [x,lo]) s) (qx []) (qx [])
   | fz=>match stepV Y 0 dst (.slice t x (some lo) none none) (evU (tmpsOf [x,lo]) s) (upd fz (qx [])) (upd fz (qx [])) with
    | some ⟨s,v,ms⟩=>some ⟨s,v,mrg ms fz⟩
    | none=>none)=_
  have hrf:refsOf (evU (tmpsOf [x,lo]) s) [x]=[]:=by simp[refsOf,e1,DV.refs]
  rw[hrf];rfl
 show (match effV Y 0 dst (.slice t x (some lo) none none) (evU (tmpsOf [x,lo]) s) (qx []) with|some ⟨true,v,m⟩=>some (v,m)|_=>none)=_
 rw[hv,e1,e2]
 have hal:jD sz (l.map enc)=true:=by
  unfold jD
  rw[zp]
  intro b hb
  obtain⟨c,_,rfl⟩:=zE.1 hb
  simpa using hsz c
 have hq:kM Y t (qx []) (.pv (.slice (l.map enc))) (some (lit (.int k n))) none none=some (true,.pv (.slice ((l.drop i).map enc))):=by
  show km Y t (qx []) (.pv (.slice (l.map enc))) (some (lit (.int k n))) none none=_
  unfold km lit
  simp only[hu,hs,bound,Option.getD_none,hal,Bool.and_true]
  subst hn
  have:decide ((0:Int)<=(i:Int)/\(i:Int)<=((l.map enc).length:Int)/\((l.map enc).length:Int)<=((l.map enc).length:Int))=true:=zl ⟨by omega,by rw[zJ];omega,by omega⟩
  rw[this,zU,zU,zx (zz _),List.map_drop]
 rw[hq];rfl
end
end Go.Lens
end
section
namespace Go.Lens.Tb
open Go.Proofs
variable [Lz]
set_option maxRecDepth 100000
attribute [local irreducible] TK PK T RG EfR Body CG
theorem ag3:aggT tab 3=some false:=by kernel_rfl
theorem sz3:szT tab 3=some 1:=by kernel_rfl
theorem sz34:szT tab 34=some 1:=by kernel_rfl
theorem kn:tab.underlying 22=some (.slice 3):=by kernel_rfl
theorem un289:tab.underlying 289=some (.slice 34):=by kernel_rfl
theorem w101 (b:Bool) (e:Int):CKa 101 [vB b,vI e] (vI (qF b e)):=by
 refine cG qf101 rfl (nB rfl) rfl (Cb rfl rfl (fun h1=>?_) (fun h1=>?_))
 ·exact Rt rfl (leaf (val0:=vI e) (by kernel_rfl) (li (by subst h1;rfl)))
 exact Rt rfl (leaf (val0:=vI 0) (by kernel_rfl) (li (by subst h1;rfl)))
theorem w93 (n low high:Int):CKa 93 [vI n,vI low,vI high] (vB (ZX n low high)):=by
 exact cG qf93 rfl (nB rfl) rfl (Eg rfl rfl (fun hc=>B.move rfl) rfl (Eg rfl rfl (fun hc=>B.move rfl) rfl (Eg rfl rfl (fun hc=>B.gtr (qy rfl hc) (qy rfl hc)) rfl (E rfl (B.pick rfl rfl rfl rfl (gdB rfl) (qZ _)) (Rt rfl (leaf (val0:=vB (bif (decide (n<low)) then true else (decide (high<n)))) (by kernel_rfl) (lb (by simp only[ZX,jy]))))))))
theorem w99 (n low high:Int):CKa 99 [vI n,vI low,vI high] (vI (qG n low high)):=by
 exact cG qf99 rfl (nB rfl) rfl (Eg rfl rfl (fun hc=>B.move rfl) rfl (Eg rfl rfl (fun hc=>B.move rfl) rfl (Eg rfl rfl (fun hc=>B.gtr (qy rfl hc) (qy rfl hc)) rfl (E rfl (B.pick rfl rfl rfl rfl (gdB rfl) (qZ _)) (C rfl (w101 (bif (decide (n<low)) then true else (decide (high<n))) 3) rfl rfl rfl (Rt rfl (leaf (val0:=vI (qF (bif (decide (n<low)) then true else (decide (high<n))) 3)) (by kernel_rfl) (li (by simp only[qG,ZX,jy])))))))))
theorem w100 (l:List Int) (hl:l.length<=1000000000000000):CKa 100 [vL eI l] (vI (qP l)):=by
 refine cG qf100 rfl (nB rfl) rfl (E rfl (B.je rfl un289) (l1 (fun (k:Nat)=>[(5,vL eI l),(6,vI l.length),(7,vI k)]) (fun _=>[]) (fun k=>k<=l.length/\qP l=qP (List.drop k l)) (fun k=>l.length-k) 0 rfl ?_ (sb rfl rfl rfl) ?_))
 · exact⟨zq _,rfl⟩
 intro k hI0
 refine Cp rfl rfl (fun h1=>?_) (fun h1=>?_)
 ·refine E rfl (B.idx (z:=0) (i:=k) rfl rfl un289 sz34 (fun _=>rfl) rfl (by omega)) (Cp rfl rfl (fun h2=>?_) (fun h2=>?_))
  ·exact Rt rfl (leaf (val0:=vI (l.getD k 0)) (by kernel_rfl) (li (by first|(rw[hI0.2,drop_at l k 0 (by omega),qP,if_neg (by omega)])|(rw[hI0.2,zX (by omega)];rfl))))
  refine E rfl (B.add rfl rfl (by unfold R64;omega)) (pk rfl (L1 (k+1) ?_ ?_ (sb rfl rfl rfl)))
  · (refine⟨by omega,?_⟩;rw[hI0.2,drop_at l k 0 (by omega),qP,if_pos (by omega)])
  · omega
 exact Rt rfl (leaf (val0:=vI 0) (by kernel_rfl) (li (by first|(rw[hI0.2,drop_at l k 0 (by omega),qP,if_neg (by omega)])|(rw[hI0.2,zX (by omega)];rfl))))
end Go.Lens.Tb
end
section
namespace Go.Lens.Tb
theorem bnot_t {b:Bool} (h:(!b)=true):b=false:=by cases b<;>first|rfl|cases h
theorem bnot_f {b:Bool} (h:(!b)=false):b=true:=by cases b<;>first|rfl|cases h
def letterF (c:Int):Bool:=(decide (97<=c)&&decide (c<=122))||(decide (65<=c)&&decide (c<=90))
def nameAt (i:Nat) (c:Int):Bool:=letterF c||(!decide ((i:Int)=0)&&((decide (48<=c)&&decide (c<=57))||decide (c=95)))
def qY (s:ByteArray):Bool:=decide (1<=s.size)&&decide (s.size<=24)&&(List.range s.size).all fun i=>nameAt i (byteAt s i)
theorem nm8:∀ a b c d z e f g:Bool,(bif !(bif (bif a then b else false) then true else (bif c then d else false)) then (bif z then true else !(bif (bif e then f else false) then true else g)) else false)=!(((a&&b)||(c&&d))||(!z&&((e&&f)||g))):=by decide
theorem isName_no {s:ByteArray} (k:Nat) (hk:k<s.size) (h:nameAt k (byteAt s k)=false):qY s=false:=by
  unfold qY
  have:((List.range s.size).all fun i=>nameAt i (byteAt s i))=false:=by
    rw[List.all_eq_false]
    exact⟨k,List.mem_range.2 hk,by simp[h]⟩
  rw[this,Bool.and_false]
theorem isName_yes {s:ByteArray} (h1:1<=s.size) (h2:s.size<=24) (h:∀ j,j<s.size->nameAt j (byteAt s j)=true):qY s=true:=by
  unfold qY
  rw[zl h1,zl h2]
  simp only[Bool.true_and,zp,List.mem_range]
  exact h
theorem ZL {s:ByteArray} (h:s.size<1\/24<s.size):qY s=false:=by
  unfold qY
  rcases h with h|h
  · rw[zk (by omega)];simp
  · rw[zk (p:=s.size<=24) (by omega)];simp
def kJ {α:Type} (p:α->Bool):List α->Int
  | []=> -1
  | a::l=>bif p a then 0 else (bif decide (kJ p l<0) then -1 else kJ p l+1)
section
variable {α:Type} {p:α->Bool} {z:α}
theorem kB:∀ {l:List α},(∀ j,j<l.length->p (l.getD j z)=false)->kJ p l= -1
  | [],_=>rfl
  | a::l,h=>by
    have h0:=h 0 (by simp)
    have h1:=kB (l:=l) fun j hj=>h (j+1) (by simpa using hj)
    simp only[List.getD_cons_zero] at h0
    simp[kJ,h0,h1]
theorem k8:∀ {l:List α} (k:Nat),k<l.length->(∀ j,j<k->p (l.getD j z)=false)->p (l.getD k z)=true->kJ p l=k
  | [],k,hk,_,_=>by simp at hk
  | a::l,0,_,_,h=>by
    simp only[List.getD_cons_zero] at h
    simp[kJ,h]
  | a::l,k+1,hk,hj,h=>by
    have h0:=hj 0 (by omega)
    have h1:=k8 (l:=l) k (by simpa using hk) (fun j hj'=>hj (j+1) (by omega)) h
    simp only[List.getD_cons_zero] at h0
    simp only[kJ,h0,h1,cond_false]
    rw[zk (by omega)];simp
theorem j0:∀ (l:List α),decide (0<=kJ p l)=l.any p
  | []=>rfl
  | a::l=>by
    have ih:=j0 l
    simp only[kJ,List.any_cons]
    by_cases hp:p a=true
    · simp only[hp,cond_true,Bool.true_or];rfl
    · rw[Bool.not_eq_true] at hp
      simp only[hp,cond_false,Bool.false_or]
      rw[<-ih]
      by_cases h:kJ p l<0
      · rw[zl h,zk (p:=0<=kJ p l) (by omega)];rfl
      · rw[zk h,zl (p:=0<=kJ p l) (by omega)]
        exact zl (by simp only[cond_false];omega)
end
theorem findI_nonneg_t {α:Type} {p:α->Bool} {l:List α}:(0<=kJ p l)=(l.any p=true):=by
  rw[<-j0];simp
theorem findI_nonneg_f {α:Type} {p:α->Bool} {l:List α}:(¬0<=kJ p l)=(l.any p=false):=by
  rw[<-j0];simp
theorem list_ext_getD {α:Type} {a b:List α} (z:α) (h1:a.length=b.length) (h2:∀ j,j<a.length->a.getD j z=b.getD j z):a=b:=by
  apply List.ext_getElem h1
  intro j hj hj'
  have:=h2 j hj
  simpa [ze,hj,hj'] using this
theorem take_succ_at {α:Type} (l:List α) (k:Nat) (z:α) (h:k<l.length):l.take (k+1)=l.take k++[l.getD k z]:=by
  rw[List.take_add_one,ze,zm h];rfl
theorem any_getD_none {α:Type} {p:α->Bool} {l:List α} (z:α) (h:∀ j,j<l.length->p (l.getD j z)=false):l.any p=false:=by
  rw[List.any_eq_false]
  intro a ha
  obtain⟨j,hj,rfl⟩:=List.getElem_of_mem ha
  have:=h j hj
  rw[ze,zm hj] at this
  simpa using this
def jU (t:Tgt):Bool:=!ZX t.bright 1 1000&&!ZX t.place 0 360&&!ZX t.length 1 1440&&!ZX t.from_ 0 1440&&!ZX t.to 0 1440&&!ZX t.limit 0 100
def kf (start:Int) (W:List Int):Int:=bif ZX start 0 1440 then 3 else bif decide (W.length=0) then 12 else bif decide (24<W.length) then 5 else bif W.any (fun x=>ZX x 0 100) then 3 else 0
def chkOne (pre:List Tgt) (t:Tgt):Int:=bif !qY t.name then 8 else bif pre.any (fun o=>decide (o.name=t.name)) then 9 else bif !jU t then 3 else 0
def chkGo:List Tgt->List Tgt->Int
  | _,[]=>0
  | pre,t::r=>if chkOne pre t=0 then chkGo (pre++[t]) r else chkOne pre t
def Zh (l:List Tgt):Int:=bif decide (32<l.length) then 5 else chkGo [] l
def ordOne (n:Int) (pre:List Int) (i:Int):Int:=bif ZX i 0 (n-1) then 10 else bif pre.any (fun j=>decide (j=i)) then 9 else 0
def ordGo (n:Int):List Int->List Int->Int
  | _,[]=>0
  | pre,t::r=>if ordOne n pre t=0 then ordGo n (pre++[t]) r else ordOne n pre t
def chkOrdF (n:Int) (o:List Int):Int:=ordGo n [] o
def calmM (W:List Int) (lim b:Int) (n:Nat):Bool:=(List.range n).all fun j=>decide (W.getD ((b+(j:Int)) / 60).toNat 0<=lim)
def canF (W:List Int) (t:Tgt) (b:Int):Bool:=!(decide (b<t.from_))&&!(decide (t.to<b+t.length))&&!(decide (60*(W.length:Int)<b+t.length))&&calmM W t.limit b t.length.toNat
def searchF (p:Int->Bool) (b:Int):Nat->Int
  | 0=> -1
  | n+1=>bif p b then b else searchF p (b+1) n
def begF (W:List Int) (t:Tgt) (e:Int):Int:=searchF (canF W t) e (1441-e).toNat
def tlGo (W:List Int) (l:List Tgt):Option Tgt->Int->List Int->Option (List Int)
  | _,_,[]=>some []
  | prev,at_,i::r=>
    let t:=l.getD i.toNat default
    let b:=begF W t (match prev with|none=>at_|some p=>at_+apartF t.place p.place)
    if b<0 then none else (tlGo W l (some t) (b+t.length) r).map (b::·)
def tlF (start:Int) (W:List Int) (l:List Tgt) (order:List Int):Option (List Int):=tlGo W l none start order
end Go.Lens.Tb
end
section
namespace Go.Lens.Tb
open Go.Proofs
variable [Lz]
set_option maxRecDepth 100000
attribute [local irreducible] TK PK T RG EfR Body CG
theorem ag22:aggT tab 22=some false:=by kernel_rfl
theorem ag9:aggT tab 9=some false:=by kernel_rfl
theorem fa49_2:fadQ tab 49 2=some 2:=by kernel_rfl
theorem fa49_3:fadQ tab 49 3=some 3:=by kernel_rfl
theorem fa49_4:fadQ tab 49 4=some 4:=by kernel_rfl
theorem fa49_5:fadQ tab 49 5=some 5:=by kernel_rfl
theorem fa49_6:fadQ tab 49 6=some 6:=by kernel_rfl
theorem sz22:szT tab 22=some 1:=by kernel_rfl
theorem sz49:szT tab 49=some 7:=by kernel_rfl
theorem sz9:szT tab 9=some 1:=by kernel_rfl
theorem un27:tab.underlying 27=some (.slice 49):=by kernel_rfl
theorem un9:tab.underlying 9=some (.string):=by kernel_rfl
theorem w94 (s:ByteArray):CKa 94 [vS s] (vB (qY s)):=by
 refine cG qf94 rfl (nB rfl) rfl (E rfl (B.lenS rfl un9) (Eg rfl rfl (fun hc=>B.move rfl) rfl (Eg rfl rfl (fun hc=>B.lenS (qy rfl hc) un9) rfl (Eg rfl rfl (fun hc=>B.gtr (qy rfl hc) rfl) rfl (E rfl (B.pick rfl rfl rfl rfl (gdB rfl) (qZ _)) (Cb rfl rfl (fun h1=>?_) (fun h1=>?_)))))))
 ·exact Rt rfl (leaf (val0:=vB false) (by kernel_rfl) (lb (by (refine (ZL ?_).symm;simp only[jy,Bool.or_eq_true,zf] at h1;omega))))
 refine l1 (fun (k:Nat)=>[(0,vS s),(3,vI k)]) (fun _=>[]) (fun k=>k<=ByteArray.size s/\1<=ByteArray.size s/\ByteArray.size s<=24/\∀ j,j<k->nameAt j (byteAt s j)=true) (fun k=>ByteArray.size s-k) 0 rfl ?_ (sb rfl rfl rfl) ?_
 · (simp only[jy,qc,zH] at h1;exact⟨by omega,by omega,by omega,fun j hj=>by omega⟩)
 intro k hI0
 refine E rfl (B.lenS rfl un9) (Cp rfl rfl (fun h2=>?_) (fun h2=>?_))
 ·refine E rfl (B.sidx (i:=k) rfl rfl un9 rfl (by omega)) (Eg rfl rfl (fun hc=>B.move rfl) rfl (Eg rfl rfl (fun hc=>B.leq (qy rfl hc) rfl) rfl (E rfl (B.pick rfl rfl rfl (gdB rfl) rfl (qL _)) (Eg rfl rfl (fun hc=>B.move rfl) rfl (Eg rfl rfl (fun hc=>B.geq (qy rfl hc) rfl) rfl (Eg rfl rfl (fun hc=>B.move (qy rfl hc)) rfl (Eg rfl rfl (fun hc=>B.move rfl) rfl (Eg rfl rfl (fun hc=>B.leq (qy rfl hc) rfl) rfl (Eg rfl rfl (fun hc=>B.pick (qy rfl hc) rfl rfl (gdB rfl) rfl (kG hc)) rfl (E rfl (B.pick rfl rfl rfl rfl (gdB rfl) (qZ _)) (Eg rfl rfl (fun hc=>B.move rfl) rfl (Eg rfl rfl (fun hc=>B.eql (qy rfl hc) rfl) rfl (Eg rfl rfl (fun hc=>B.move (qy rfl hc)) rfl ?_)))))))))))))
  refine Eg rfl rfl (fun hc=>B.move rfl) rfl (Eg rfl rfl (fun hc=>B.geq (qy rfl hc) rfl) rfl (Eg rfl rfl (fun hc=>B.move (qy rfl hc)) rfl (Eg rfl rfl (fun hc=>B.move rfl) rfl (Eg rfl rfl (fun hc=>B.leq (qy rfl hc) rfl) rfl (Eg rfl rfl (fun hc=>B.pick (qy rfl hc) rfl rfl (gdB rfl) rfl (kG hc)) rfl (Eg rfl rfl (fun hc=>B.move (qy rfl hc)) rfl (Eg rfl rfl (fun hc=>B.move rfl) rfl (Eg rfl rfl (fun hc=>B.eql (qy rfl hc) rfl) rfl (Eg rfl rfl (fun hc=>B.pick (qy rfl hc) rfl rfl rfl (gdB rfl) (pick_or2 hc)) rfl (Eg rfl rfl (fun hc=>B.not (qy rfl hc)) rfl (Eg rfl rfl (fun hc=>B.pick (qy rfl hc) rfl rfl rfl (gdB rfl) (pick_or2 hc)) rfl (E rfl (B.pick rfl rfl rfl (gdB rfl) rfl (qL _)) (Cb rfl rfl (fun h3=>?_) (fun h3=>?_))))))))))))))
  ·exact Rt rfl (leaf (val0:=vB false) (by kernel_rfl) (lb (by (exact (isName_no k (by omega) (bnot_t ((nm8 _ _ _ _ _ _ _ _).symm.trans h3))).symm))))
  refine E rfl (B.add rfl rfl (by unfold R64;omega)) (pk rfl (L1 (k+1) ?_ ?_ (sb rfl rfl rfl)))
  · (refine⟨by omega,hI0.2.1,hI0.2.2.1,fun j hj=>?_⟩;rcases zy.1 hj with h|h;exact hI0.2.2.2 j h;subst h;exact bnot_f ((nm8 _ _ _ _ _ _ _ _).symm.trans h3))
  · omega
 exact Rt rfl (leaf (val0:=vB true) (by kernel_rfl) (lb (by exact (isName_yes hI0.2.1 hI0.2.2.1 fun j hj=>hI0.2.2.2 j (by omega)).symm)))
theorem w95 (l:List Tgt) (name:ByteArray) (hl:l.length<=1000000000000000):CKa 95 [vL eT l,vS name] (vI (kJ (fun o=>decide (Tgt.name o=name)) l)):=by
 refine cG qf95 rfl (nB rfl) rfl (l1 (fun (k:Nat)=>[(0,vL eT l),(1,vS name),(5,vI k)]) (fun _=>[]) (fun k=>k<=l.length/\∀ j,j<k->¬(Tgt.name (l.getD j default)=name)) (fun k=>l.length-k) 0 rfl ?_ (sb rfl rfl rfl) ?_)
 · exact⟨zq _,fun j hj=>by omega⟩
 intro k hI0
 refine E rfl (B.je rfl un27) (Cp rfl rfl (fun h1=>?_) (fun h1=>?_))
 ·refine E rfl (B.idx (z:=default) (i:=k) rfl rfl un27 sz49 (fun _=>rfl) rfl (by omega)) (E rfl (B.seql rfl rfl) (Cp rfl rfl (fun h2=>?_) (fun h2=>?_)))
  ·exact Rt rfl (leaf (val0:=vI k) (by kernel_rfl) (li (by exact (k8 (p:=fun o=>decide (Tgt.name o=name)) (l:=l) (z:=default) k (by omega) (fun j hj=>zk (hI0.2 j hj)) (zl h2)).symm)))
  refine E rfl (B.add rfl rfl (by unfold R64;omega)) (pk rfl (L1 (k+1) ?_ ?_ (sb rfl rfl rfl)))
  · (refine⟨by omega,fun j hj=>?_⟩;rcases zy.1 hj with h|h;exact hI0.2 j h;subst h;exact h2)
  · omega
 exact Rt rfl (leaf (val0:=vI (-1)) (by kernel_rfl) (li (by exact (kB (p:=fun o=>decide (Tgt.name o=name)) (l:=l) (z:=default) fun j hj=>zk (hI0.2 j (by omega))).symm)))
theorem w96 (t:Tgt):CKa 96 [.pv (.agg [pS (Tgt.name t),pI (Tgt.bright t),pI (Tgt.place t),pI (Tgt.length t),pI (Tgt.from_ t),pI (Tgt.to t),pI (Tgt.limit t)])] (vB (jU t)):=by
 refine cG qf96 rfl (nB rfl) rfl (C rfl (w93 (Tgt.bright t) 1 1000) rfl rfl rfl (Eg rfl rfl (fun hc=>B.fadB rfl fa49_2 rfl) rfl (Eg rfl rfl (fun hc=>B.jM (qy rfl hc) rfl rfl ag3 sz3 rfl) rfl (Eg rfl rfl (fun hc=>B.call (w93 (Tgt.place t) 0 360) rfl (ds3 (qy rfl hc) rfl rfl) rfl) rfl (Eg rfl rfl (fun hc=>B.not (qy rfl hc)) rfl (E rfl (B.pick rfl rfl rfl (gdB rfl) rfl (qL _)) (Eg rfl rfl (fun hc=>B.fadB rfl fa49_3 rfl) rfl (Eg rfl rfl (fun hc=>B.jM (qy rfl hc) rfl rfl ag3 sz3 rfl) rfl (Eg rfl rfl (fun hc=>B.call (w93 (Tgt.length t) 1 1440) rfl (ds3 (qy rfl hc) rfl rfl) rfl) rfl (Eg rfl rfl (fun hc=>B.not (qy rfl hc)) rfl (E rfl (B.pick rfl rfl rfl (gdB rfl) rfl (qL _)) (Eg rfl rfl (fun hc=>B.fadB rfl fa49_4 rfl) rfl (Eg rfl rfl (fun hc=>B.jM (qy rfl hc) rfl rfl ag3 sz3 rfl) rfl ?_)))))))))))))
 exact Eg rfl rfl (fun hc=>B.call (w93 (Tgt.from_ t) 0 1440) rfl (ds3 (qy rfl hc) rfl rfl) rfl) rfl (Eg rfl rfl (fun hc=>B.not (qy rfl hc)) rfl (E rfl (B.pick rfl rfl rfl (gdB rfl) rfl (qL _)) (Eg rfl rfl (fun hc=>B.fadB rfl fa49_5 rfl) rfl (Eg rfl rfl (fun hc=>B.jM (qy rfl hc) rfl rfl ag3 sz3 rfl) rfl (Eg rfl rfl (fun hc=>B.call (w93 (Tgt.to t) 0 1440) rfl (ds3 (qy rfl hc) rfl rfl) rfl) rfl (Eg rfl rfl (fun hc=>B.not (qy rfl hc)) rfl (E rfl (B.pick rfl rfl rfl (gdB rfl) rfl (qL _)) (Eg rfl rfl (fun hc=>B.fadB rfl fa49_6 rfl) rfl (Eg rfl rfl (fun hc=>B.jM (qy rfl hc) rfl rfl ag3 sz3 rfl) rfl (Eg rfl rfl (fun hc=>B.call (w93 (Tgt.limit t) 0 100) rfl (ds3 (qy rfl hc) rfl rfl) rfl) rfl (Eg rfl rfl (fun hc=>B.not (qy rfl hc)) rfl (E rfl (B.pick rfl rfl rfl (gdB rfl) rfl (qL _)) (Rt rfl (leaf (val0:=vB (bif (bif (bif (bif (bif (!(ZX (Tgt.bright t) 1 1000)) then (!(ZX (Tgt.place t) 0 360)) else false) then (!(ZX (Tgt.length t) 1 1440)) else false) then (!(ZX (Tgt.from_ t) 0 1440)) else false) then (!(ZX (Tgt.to t) 0 1440)) else false) then (!(ZX (Tgt.limit t) 0 100)) else false)) (by kernel_rfl) (lb (by simp only[jU,js]))))))))))))))))
theorem by49:ty49.info.bytes=64:=by kernel_rfl
theorem in49:tab.info? 49=some ty49.info:=by kernel_rfl
theorem sz46:szT tab 46=some 7:=by kernel_rfl
theorem un25:tab.underlying 25=some (.slice 46):=by kernel_rfl
theorem w16 (l:List Tgt) (hl:l.length*64<=140737488355328):CKa 16 [vL eT l] (vL eT l):=by
 refine cG qf16 rfl (nB rfl) rfl (E rfl (B.j4 (enc:=eT) rfl) (E rfl (B.adopt 4 7 49 rfl rfl) (E rfl (B.je rfl un25) (l3 (fun (k:Nat) (v:Nat) (out:List Tgt)=>[(3,.aref 4 v),(6,vL eT l),(7,vI l.length),(8,vI k)]) (fun _ v out=>[(4,.arr v 7 49 (List.map eT out))]) (fun k _ out=>k<=l.length/\out=List.take k l) (fun k _ _=>l.length-k) 0 0 [] rfl ?_ (sb rfl rfl rfl) ?_))))
 · exact⟨zq _,rfl⟩
 intro k v out hI0
 refine Cp rfl rfl (fun h1=>?_) (fun h1=>?_)
 ·refine E rfl (B.idx (z:=default) (i:=k) rfl rfl un25 sz46 (fun _=>rfl) rfl (by first|omega|(have h8:=congrArg List.length hI0.2;simp only[zn] at h8;simp only[zb,zd];omega))) ?_
  refine E rfl (B.jj (val:=.pv (.slice (List.map eT [(l.getD k default)]))) rfl (fun l=>Frz.arr l _ _ _ _ _) rfl) ?_
  refine E rfl (B.append rfl rfl rfl un27 in49 rfl (fun _=>rfl) by49 (by first|omega|(have h8:=congrArg List.length hI0.2;simp only[zn] at h8;simp only[zb,zd];omega))) ?_
  refine E rfl (B.add rfl rfl (by unfold R64;omega)) ?_
  refine pk rfl (L3 (k+1) (v+1) (out++[(l.getD k default)]) ?_ ?_ (sb rfl rfl rfl))
  · (refine⟨by omega,?_⟩;rw[hI0.2,take_succ_at l k default (by omega)])
  · omega
 exact Fz 7 3 rfl rfl rfl (Rt rfl (leaf (val0:=vL eT out) (by kernel_rfl) (lsl (by rw[hI0.2,zx (by omega)]))))
end Go.Lens.Tb
end
section
namespace Go.Lens.Tb
theorem getD_mem {α:Type} {l:List α} {k:Nat} {z:α} (h:k<l.length):l.getD k z∈l:=by
  rw[ze,zm h];exact List.getElem_mem h
end Go.Lens.Tb
end
section
namespace Go.Lens.Tb
open Go.Proofs
variable [Lz]
set_option maxRecDepth 100000
attribute [local irreducible] TK PK T RG EfR Body CG
theorem by3:ty3.info.bytes=8:=by kernel_rfl
theorem in3:tab.info? 3=some ty3.info:=by kernel_rfl
end Go.Lens.Tb
end
section
namespace Go.Lens.Tb
theorem byteAt_get {s:ByteArray} {p:Nat} (h:p<s.size):byteAt s p=((s[p]'h).toNat:Int):=by
  unfold byteAt
  have h':p<s.data.toList.length:=by simpa using h
  rw[ze,zm h']
  simp[ByteArray.getElem_eq_getElem_data]
theorem nameAt_high {p:Nat} {c:Int} (h:128<=c):nameAt p c=false:=by
  unfold nameAt letterF
  rw[zk (p:=c<=122) (by omega),zk (p:=c<=90) (by omega),zk (p:=c<=57) (by omega),zk (p:=c=95) (by omega)]
  simp
theorem rune_name {s:ByteArray} {p:Nat} (h:p<s.size):nameAt p (((Utf8.decode s p).1:Nat):Int)=nameAt p (byteAt s p)/\(nameAt p (byteAt s p)=true->(Utf8.decode s p).2=1):=by
  rw[byteAt_get h]
  rcases Nat.lt_or_ge (s[p]'h).toNat 128 with ha|ha
  · rw[decode_ascii s p h ha]
    exact⟨rfl,fun _=>rfl⟩
  · have:=decode_high s p h ha
    rw[nameAt_high (by omega),nameAt_high (by omega)]
    exact⟨rfl,fun h=>by cases h⟩
theorem nm8r:∀ L z n95 l48 g57:Bool,(bif !L then (bif z then true else (bif n95 then (bif l48 then true else g57) else false)) else false)=!(L||(!z&&((!l48&&!g57)||!n95))):=by decide
theorem nameAt_r (p:Nat) (c:Int):(letterF c||(!decide ((p:Int)=0)&&((!decide (c<48)&&!decide (57<c))||!decide (c≠95))))=nameAt p c:=by
  unfold nameAt
  congr 2
  have h1:(!decide (c<48))=decide (48<=c):=by rw[zM];simp
  have h2:(!decide (57<c))=decide (c<=57):=by rw[zM];simp
  have h3:(!decide (c≠95))=decide (c=95):=by rw[zM];simp
  rw[h1,h2,h3]
theorem rune_cond {s:ByteArray} {p:Nat} (h:p<s.size) {c:Int} (hc:c=(((Utf8.decode s p).1:Nat):Int)) {b:Bool}
    (hb:(bif !(letterF c) then (bif decide ((p:Int)=0) then true else (bif decide (c≠95) then (bif decide (c<48) then true else decide (57<c)) else false)) else false)=b):nameAt p (byteAt s p)=!b:=by
  rw[nm8r,nameAt_r,hc,(rune_name h).1] at hb
  rw[<-hb,Bool.not_not]
theorem empty_iff {s:ByteArray}:s=⟨#[]⟩↔s.size=0:=by
  constructor
  · rintro rfl;rfl
  · intro h;exact ByteArray.ext (Array.eq_empty_of_size_eq_zero h)
theorem first_ranged (t:Tgt):qP [qG t.bright 1 1000,qG t.place 0 360,qG t.length 1 1440,qG t.from_ 0 1440,qG t.to 0 1440,qG t.limit 0 100]=qF (!jU t) 3:=by
  unfold jU qG qF
  cases ZX t.bright 1 1000<;>cases ZX t.place 0 360<;>cases ZX t.length 1 1440<;>cases ZX t.from_ 0 1440<;>cases ZX t.to 0 1440<;>cases ZX t.limit 0 100<;>rfl
theorem ZS (pre:List Tgt) (t:Tgt):qP [qF (!qY t.name) 8,qF (pre.any fun o=>decide (o.name=t.name)) 9,qF (!jU t) 3]=chkOne pre t:=by
  unfold chkOne qF
  cases qY t.name<;>cases (pre.any fun o=>decide (o.name=t.name))<;>cases jU t<;>rfl
end Go.Lens.Tb
end
section
namespace Go.Lens.Tb
open Go.Proofs
variable [Lz]
set_option maxRecDepth 100000
attribute [local irreducible] TK PK T RG EfR Body CG
theorem w241 (c:Int):CKa 241 [.pv (.lit (.int .i32 c))] (vB (letterF c)):=by
 exact cG qf241 rfl (nB rfl) rfl (Eg rfl rfl (fun hc=>B.move rfl) rfl (Eg rfl rfl (fun hc=>B.leq (qy rfl hc) rfl) rfl (E rfl (B.pick rfl rfl rfl (gdB rfl) rfl (qL _)) (Eg rfl rfl (fun hc=>B.move rfl) rfl (Eg rfl rfl (fun hc=>B.geq (qy rfl hc) rfl) rfl (Eg rfl rfl (fun hc=>B.move (qy rfl hc)) rfl (Eg rfl rfl (fun hc=>B.move rfl) rfl (Eg rfl rfl (fun hc=>B.leq (qy rfl hc) rfl) rfl (Eg rfl rfl (fun hc=>B.pick (qy rfl hc) rfl rfl (gdB rfl) rfl (kG hc)) rfl (E rfl (B.pick rfl rfl rfl rfl (gdB rfl) (qZ _)) (Rt rfl (leaf (val0:=vB (bif (bif (decide (97<=c)) then (decide (c<=122)) else false) then true else (bif (decide (65<=c)) then (decide (c<=90)) else false))) (by kernel_rfl) (lb (by simp only[letterF,jy,js]))))))))))))))
theorem w164 (s:ByteArray):CKa 164 [vS s] (vB (qY s)):=by
 refine cG qf164 rfl (nB rfl) rfl (E rfl (B.rangeS rfl un9 rfl rfl) (l1 (fun (p:Nat)=>[(0,vS s),(6,.bref 7 0)]) (fun p=>[(7,.siter s p)]) (fun p=>p<=ByteArray.size s/\∀ j,j<p->nameAt j (byteAt s j)=true) (fun p=>ByteArray.size s-p) 0 rfl ?_ (sb rfl rfl rfl) ?_))
 · exact⟨zq _,fun j hj=>by omega⟩
 intro p hI0
 refine Nx rfl rfl rfl (fun h1=>?_) (fun h1=>?_)
 ·refine CT rfl rfl (C rfl (w241 (((Utf8.decode s p).1:Nat):Int)) rfl rfl rfl (Eg rfl rfl (fun hc=>B.move rfl) rfl (Eg rfl rfl (fun hc=>B.eql (qy rfl hc) rfl) rfl (Eg rfl rfl (fun hc=>B.move (qy rfl hc)) rfl (Eg rfl rfl (fun hc=>B.move rfl) rfl (Eg rfl rfl (fun hc=>B.neq (qy rfl hc) rfl) rfl (Eg rfl rfl (fun hc=>B.move (qy rfl hc)) rfl (Eg rfl rfl (fun hc=>B.move rfl) rfl (Eg rfl rfl (fun hc=>B.lss (qy rfl hc) rfl) rfl (Eg rfl rfl (fun hc=>B.move (qy rfl hc)) rfl (Eg rfl rfl (fun hc=>B.move rfl) rfl (Eg rfl rfl (fun hc=>B.gtr (qy rfl hc) rfl) rfl (Eg rfl rfl (fun hc=>B.pick (qy rfl hc) rfl rfl rfl (gdB rfl) (pick_or2 hc)) rfl ?_)))))))))))))
  refine Eg rfl rfl (fun hc=>B.pick (qy rfl hc) rfl rfl (gdB rfl) rfl (kG hc)) rfl (Eg rfl rfl (fun hc=>B.pick (qy rfl hc) rfl rfl rfl (gdB rfl) (pick_or2 hc)) rfl (E rfl (B.pick rfl rfl rfl (gdB rfl) rfl (qL _)) (Cb rfl rfl (fun h2=>?_) (fun h2=>?_))))
  ·exact Rt rfl (leaf (val0:=vB false) (by kernel_rfl) (lb (by first
          | exact (isName_no p h1 (rune_cond h1 rfl h2)).symm
          | (have he:p=ByteArray.size s:=by omega
             rw[js]
             by_cases h0:ByteArray.size s=0
             · rw[zk (p:=s≠⟨#[]⟩) (fun h=>h (empty_iff.2 h0)),ZL (.inl (by omega))];rfl
             · rw[zl (p:=s≠⟨#[]⟩) (fun h=>h0 (empty_iff.1 h))]
               by_cases h9:ByteArray.size s<=24
               · rw[zl (by omega),isName_yes (by omega) h9 fun j hj=>hI0.2 j (by omega)];rfl
               · rw[zk (by omega),ZL (.inr (by omega))];rfl))))
  refine pk rfl (L1 (p+(Utf8.decode s p).2) ?_ ?_ (sb rfl rfl rfl))
  · (have hn:=rune_cond h1 rfl h2;rw[(rune_name h1).2 hn];refine⟨by omega,fun j hj=>?_⟩;rcases zy.1 hj with h|h;exact hI0.2 j h;subst h;exact hn)
  · (have hn:=rune_cond h1 rfl h2;rw[(rune_name h1).2 hn];omega)
 refine CF rfl rfl (E rfl (B.sneq rfl rfl) (Eg rfl rfl (fun hc=>B.move rfl) rfl (Eg rfl rfl (fun hc=>B.lenS (qy rfl hc) un9) rfl (Eg rfl rfl (fun hc=>B.leq (qy rfl hc) rfl) rfl (E rfl (B.pick rfl rfl rfl (gdB rfl) rfl (qL _)) ?_)))))
 exact Rt rfl (leaf (val0:=vB (bif (decide (s≠⟨#[]⟩)) then (decide (((ByteArray.size s:Nat):Int)<=24)) else false)) (by kernel_rfl) (lb (by first
         | exact (isName_no p h1 (rune_cond h1 rfl h2)).symm
         | (have he:p=ByteArray.size s:=by omega
            rw[js]
            by_cases h0:ByteArray.size s=0
            · rw[zk (p:=s≠⟨#[]⟩) (fun h=>h (empty_iff.2 h0)),ZL (.inl (by omega))];rfl
            · rw[zl (p:=s≠⟨#[]⟩) (fun h=>h0 (empty_iff.1 h))]
              by_cases h9:ByteArray.size s<=24
              · rw[zl (by omega),isName_yes (by omega) h9 fun j hj=>hI0.2 j (by omega)];rfl
              · rw[zk (by omega),ZL (.inr (by omega))];rfl))))
theorem w104 (s:ByteArray):CKa 104 [vS s] (vI (qF (!(qY s)) 8)):=by
 exact cG qf104 rfl (nB rfl) rfl (C rfl (w164 s) rfl rfl rfl (C rfl (w101 (!(qY s)) 8) rfl rfl rfl (Rt rfl (leaf rfl rfl))))
theorem w105 (t:Tgt):CKa 105 [.pv (.agg [pS (Tgt.name t),pI (Tgt.bright t),pI (Tgt.place t),pI (Tgt.length t),pI (Tgt.from_ t),pI (Tgt.to t),pI (Tgt.limit t)])] (vI (qF (!(jU t)) 3)):=by
 exact cG qf105 rfl (nB rfl) rfl (C rfl (w99 (Tgt.bright t) 1 1000) rfl rfl rfl (C rfl (w99 (Tgt.place t) 0 360) rfl rfl rfl (C rfl (w99 (Tgt.length t) 1 1440) rfl rfl rfl (C rfl (w99 (Tgt.from_ t) 0 1440) rfl rfl rfl (C rfl (w99 (Tgt.to t) 0 1440) rfl rfl rfl (C rfl (w99 (Tgt.limit t) 0 100) rfl rfl rfl (E rfl (B.jj (val:=.pv (.slice (List.map eI [(qG (Tgt.bright t) 1 1000),(qG (Tgt.place t) 0 360),(qG (Tgt.length t) 1 1440),(qG (Tgt.from_ t) 0 1440),(qG (Tgt.to t) 0 1440),(qG (Tgt.limit t) 0 100)]))) rfl (fun l=>Frz.arr l _ _ _ _ _) rfl) (C rfl (w100 [(qG (Tgt.bright t) 1 1000),(qG (Tgt.place t) 0 360),(qG (Tgt.length t) 1 1440),(qG (Tgt.from_ t) 0 1440),(qG (Tgt.to t) 0 1440),(qG (Tgt.limit t) 0 100)] (nB rfl)) rfl rfl rfl (Dr rfl (by kernel_rfl) (Rt rfl (leaf (val0:=vI (qP [(qG (Tgt.bright t) 1 1000),(qG (Tgt.place t) 0 360),(qG (Tgt.length t) 1 1440),(qG (Tgt.from_ t) 0 1440),(qG (Tgt.to t) 0 1440),(qG (Tgt.limit t) 0 100)])) (by kernel_rfl) (li (by exact first_ranged t)))))))))))))
end Go.Lens.Tb
end
section
namespace Go.Lens.Tm
open Go.Lens.Tb Go.Proofs
def kD (c:Int):Bool:=(((((decide (97<=c)&&decide (c<=122))||(decide (65<=c)&&decide (c<=90)))||(decide (48<=c)&&decide (c<=57)))||decide (c=46))||decide (c=45))||decide (c=47)||decide (c=95)
def permS (s:List UInt8):Bool:=s.all fun b=>kD (b.toNat:Int)
def chkF (f:Fld):Int:=bif !(qY (bsO f.1)) then 8 else bif decide (60<f.2.length) then 26 else bif !(permS f.2) then 1 else 0
def ordB (l:List Fld) (i:Nat):Bool:=decide (0<i)&&leS (l.getD i ([],[])).1 (l.getD (i-1) ([],[])).1
def fOne (l:List Fld) (i:Nat):Int:=if chkF (l.getD i ([],[]))=0 then (bif ordB l i then 11 else 0) else chkF (l.getD i ([],[]))
def fGo (l:List Fld):Nat->Nat->Int
 | 0,_=>0
 | n+1,i=>if fOne l i=0 then fGo l n (i+1) else fOne l i
def jt (l:List Fld):Int:=bif decide (24<l.length) then 5 else fGo l l.length 0
theorem dlt (a b:Int):decide (a<b)=!decide (b<=a):=by rw[zM];simp
theorem dne {α:Type} [DecidableEq α] (a b:α):decide (a≠b)=!decide (a=b):=by rw[zM];simp
theorem perm_not (c:Int):(!kD c)=((((((decide (c<97)||decide (122<c))&&(decide (c<65)||decide (90<c)))&&(decide (c<48)||decide (57<c)))&&decide (c≠46))&&decide (c≠45))&&decide (c≠47)&&decide (c≠95)):=by
 unfold kD
 simp only[dlt,dne,Bool.not_or,Bool.not_and]
theorem fGo_step {l:List Fld} {k:Nat} (hk:k<l.length) (h:fOne l k=0):fGo l (l.length-k) k=fGo l (l.length-(k+1)) (k+1):=by
 rw[show l.length-k=(l.length-(k+1))+1 by omega,fGo,if_pos h]
theorem fGo_err {l:List Fld} {k:Nat} (hk:k<l.length) (h:fOne l k≠0):fGo l (l.length-k) k=fOne l k:=by
 rw[show l.length-k=(l.length-(k+1))+1 by omega,fGo,if_neg h]
theorem permS_no {s:List UInt8} {k:Nat} (hk:k<s.length) (h:kD (byteAt (bsO s) k)=false):permS s=false:=by
 unfold permS
 rw[List.all_eq_false]
 refine⟨s.getD k 0,getD_mem hk,?_⟩
 change kD ((s.getD k 0).toNat:Int)=false at h
 rw[h];simp
theorem permS_yes {s:List UInt8} (h:∀ j,j<s.length->kD (byteAt (bsO s) j)=true):permS s=true:=by
 unfold permS
 rw[zp]
 intro b hb
 obtain⟨j,hj,rfl⟩:=List.getElem_of_mem hb
 have:=h j hj
 change kD ((s.getD j 0).toNat:Int)=true at this
 rw[ze,zm hj] at this
 exact this
theorem first_fld (l:List Fld) (i:Nat):qP [qF (!(qY (bsO (l.getD i ([],[])).1))) 8,qF (decide (60<(((l.getD i ([],[])).2.length:Nat):Int))) 26,qF (!(permS (l.getD i ([],[])).2)) 1,qF (bif decide (0<((i:Nat):Int)) then leS (l.getD i ([],[])).1 (l.getD (i-1) ([],[])).1 else false) 11]=fOne l i:=by
 unfold fOne chkF ordB qF
 have h1:decide (60<(((l.getD i ([],[])).2.length:Nat):Int))=decide (60<(l.getD i ([],[])).2.length):=by rw[zM];simp;omega
 have h2:decide (0<((i:Nat):Int))=decide (0<i):=by rw[zM];simp
 rw[h1,h2]
 cases qY (bsO (l.getD i ([],[])).1)<;>cases decide (60<(l.getD i ([],[])).2.length)<;>cases permS (l.getD i ([],[])).2<;>cases decide (0<i)<;>cases leS (l.getD i ([],[])).1 (l.getD (i-1) ([],[])).1<;>rfl
section
variable {l:List Fld} {k:Nat}
theorem f_bad (h:chkF (l.getD k ([],[]))≠0):fOne l k=chkF (l.getD k ([],[])):=by unfold fOne;rw[if_neg h]
theorem f_ordq {b:Bool} (h:(bif decide (0<((k:Nat):Int)) then leS (l.getD k ([],[])).1 (l.getD (k-1) ([],[])).1 else false)=b):ordB l k=b:=by
 rw[<-h]
 unfold ordB
 have h2:decide (0<((k:Nat):Int))=decide (0<k):=by rw[zM];simp
 rw[h2]
 cases decide (0<k)<;>rfl
theorem f_ord (h:¬chkF (l.getD k ([],[]))≠0) (h4:(bif decide (0<((k:Nat):Int)) then leS (l.getD k ([],[])).1 (l.getD (k-1) ([],[])).1 else false)=true):fOne l k=11:=by
 unfold fOne;rw[if_pos (zi.1 h),f_ordq h4];rfl
theorem f_ok (h:¬chkF (l.getD k ([],[]))≠0) (h4:(bif decide (0<((k:Nat):Int)) then leS (l.getD k ([],[])).1 (l.getD (k-1) ([],[])).1 else false)=false):fOne l k=0:=by
 unfold fOne;rw[if_pos (zi.1 h),f_ordq h4];rfl
theorem take_fld (l:List Fld) (k:Nat) (h:k<l.length):l.take (k+1)=l.take k++[l.getD k ([],[])]:=by
 rw[List.take_add_one,zm h,ze,zm h];rfl
theorem getF_skip {n:List UInt8} (hk:k<l.length) (h:¬(l.getD k ([],[])).1=n):jl n (l.drop k)=jl n (l.drop (k+1)):=by
 rw[drop_at l k ([],[]) hk]
 generalize l.getD k ([],[])=f at h
 obtain⟨a,x⟩:=f
 simp only[jl]
 rw[if_neg (fun e=>h e.symm)]
theorem getF_hit {n:List UInt8} (hk:k<l.length) (h:(l.getD k ([],[])).1=n):jl n (l.drop k)=some (l.getD k ([],[])).2:=by
 rw[drop_at l k ([],[]) hk]
 generalize l.getD k ([],[])=f at h
 obtain⟨a,x⟩:=f
 simp only[jl]
 rw[if_pos h.symm]
end
theorem st_eq {a b:Fld} (h:(!(decide (Prod.fst a=Prod.fst b)&&decide (Prod.snd a=Prod.snd b)))=false):a=b:=by
 simp only[Bool.not_eq_false',zj,zf] at h
 exact Prod.ext h.1 h.2
theorem st_ne {a b:Fld} (h:(!(decide (Prod.fst a=Prod.fst b)&&decide (Prod.snd a=Prod.snd b)))=true) (e:a=b):False:=by
 subst e;simp at h
theorem eq_getD {α:Type} (z:α) {a b:List α} (h:a.length=b.length) (k:∀ j,j<a.length->a.getD j z=b.getD j z):a=b:=by
 apply List.ext_getElem h
 intro i h1 h2
 have:=k i h1
 rwa [ze,ze,zm h1,zm h2] at this
end Go.Lens.Tm
end
section
namespace Go.Lens.Tm
open Go.Lens.Tb Go.Proofs
variable [Lz]
set_option maxHeartbeats 2000000
set_option maxRecDepth 100000
attribute [local irreducible] TK PK T RG EfR Body CG
theorem by175:ty175.info.bytes=32:=by kernel_rfl
theorem fa175_0:fadQ tab 175 0=some 0:=by kernel_rfl
theorem in175:tab.info? 175=some ty175.info:=by kernel_rfl
theorem sz175:szT tab 175=some 2:=by kernel_rfl
theorem un60:tab.underlying 60=some (.slice 175):=by kernel_rfl
theorem ff175:flatEq tab 175=some [.string,.string]:=by kernel_rfl
theorem w172 (c:Int):CKa 172 [.pv (.lit (.int .u8 c))] (vB (kD c)):=by
 refine cG qf172 rfl (nB rfl) rfl (Eg rfl rfl (fun hc=>B.move rfl) rfl (Eg rfl rfl (fun hc=>B.leq (qy rfl hc) rfl) rfl (E rfl (B.pick rfl rfl rfl (gdB rfl) rfl (qL _)) (Eg rfl rfl (fun hc=>B.move rfl) rfl (Eg rfl rfl (fun hc=>B.geq (qy rfl hc) rfl) rfl (Eg rfl rfl (fun hc=>B.move (qy rfl hc)) rfl (Eg rfl rfl (fun hc=>B.move rfl) rfl (Eg rfl rfl (fun hc=>B.leq (qy rfl hc) rfl) rfl (Eg rfl rfl (fun hc=>B.pick (qy rfl hc) rfl rfl (gdB rfl) rfl (kG hc)) rfl (E rfl (B.pick rfl rfl rfl rfl (gdB rfl) (qZ _)) (Eg rfl rfl (fun hc=>B.move rfl) rfl (Eg rfl rfl (fun hc=>B.geq (qy rfl hc) rfl) rfl (Eg rfl rfl (fun hc=>B.move (qy rfl hc)) rfl ?_)))))))))))))
 refine Eg rfl rfl (fun hc=>B.move rfl) rfl (Eg rfl rfl (fun hc=>B.leq (qy rfl hc) rfl) rfl (Eg rfl rfl (fun hc=>B.pick (qy rfl hc) rfl rfl (gdB rfl) rfl (kG hc)) rfl (E rfl (B.pick rfl rfl rfl rfl (gdB rfl) (qZ _)) (Eg rfl rfl (fun hc=>B.move rfl) rfl (Eg rfl rfl (fun hc=>B.eql (qy rfl hc) rfl) rfl (E rfl (B.pick rfl rfl rfl rfl (gdB rfl) (qZ _)) (Eg rfl rfl (fun hc=>B.move rfl) rfl (Eg rfl rfl (fun hc=>B.eql (qy rfl hc) rfl) rfl (E rfl (B.pick rfl rfl rfl rfl (gdB rfl) (qZ _)) (Eg rfl rfl (fun hc=>B.move rfl) rfl (Eg rfl rfl (fun hc=>B.eql (qy rfl hc) rfl) rfl (E rfl (B.pick rfl rfl rfl rfl (gdB rfl) (qZ _)) (Eg rfl rfl (fun hc=>B.move rfl) rfl ?_)))))))))))))
 exact Eg rfl rfl (fun hc=>B.eql (qy rfl hc) rfl) rfl (E rfl (B.pick rfl rfl rfl rfl (gdB rfl) (qZ _)) (Rt rfl (leaf (val0:=vB (bif (bif (bif (bif (bif (bif (bif (decide (97<=c)) then (decide (c<=122)) else false) then true else (bif (decide (65<=c)) then (decide (c<=90)) else false)) then true else (bif (decide (48<=c)) then (decide (c<=57)) else false)) then true else (decide (c=46))) then true else (decide (c=45))) then true else (decide (c=47))) then true else (decide (c=95)))) (by kernel_rfl) (lb (by simp only[kD,jy,js])))))
theorem w118 (f:Fld):CKa 118 [.pv (.agg [pS (bsO f.1),pS (bsO f.2)])] (vI (chkF f)):=by
 refine cG qf118 rfl (nB rfl) rfl (C rfl (w94 (bsO f.1)) rfl rfl rfl (Cb rfl rfl (fun h1=>?_) (fun h1=>?_)))
 ·exact Rt rfl (leaf (val0:=vI 8) (by kernel_rfl) (li (by unfold chkF;(rw[h1];rfl))))
 refine E rfl (B.lenB (a:=f.2) rfl un9) (Cp rfl rfl (fun h2=>?_) (fun h2=>?_))
 ·exact Rt rfl (leaf (val0:=vI 26) (by kernel_rfl) (li (by unfold chkF;(rw[h1,zl (by omega)];rfl))))
 refine l1 (fun (k:Nat)=>[(1,.bref 2 0),(3,vI k)]) (fun _=>[(2,.box 175 [vS (bsO f.1),vS (bsO f.2)])]) (fun k=>k<=f.2.length/\f.2.length<=60/\∀ j,j<k->kD (byteAt (bsO f.2) j)=true) (fun k=>f.2.length-k) 0 rfl ?_ (sb rfl rfl rfl) ?_
 · exact⟨zq _,by omega,fun j hj=>by omega⟩
 intro k hI0
 refine E rfl (B.lenB (a:=f.2) rfl un9) (Cp rfl rfl (fun h3=>?_) (fun h3=>?_))
 ·refine E rfl (B.sidx (i:=k) rfl rfl un9 rfl (show k<f.2.length from (by omega))) (C rfl (w172 (byteAt (bsO f.2) k)) rfl rfl rfl (Cb rfl rfl (fun h4=>?_) (fun h4=>?_)))
  ·exact Rt rfl (leaf (val0:=vI 1) (by kernel_rfl) (li (by unfold chkF;(rw[h1,zk (by omega),permS_no (by omega) (bnot_t h4)];rfl))))
  refine E rfl (B.add rfl rfl (by unfold R64;omega)) (pk rfl (L1 (k+1) ?_ ?_ (sb rfl rfl rfl)))
  · (refine⟨by omega,hI0.2.1,fun j hj=>?_⟩;rcases zy.1 hj with h|h;exact hI0.2.2 j h;subst h;exact bnot_f h4)
  · omega
 exact Rt rfl (leaf (val0:=vI 0) (by kernel_rfl) (li (by unfold chkF;(rw[h1,zk (by omega),permS_yes fun j hj=>hI0.2.2 j (by omega)];rfl))))
theorem w38 (l:List Fld) (hl:l.length<=1000000000000000):CKa 38 [vL eF l] (vI (jt l)):=by
 refine cG qf38 rfl (nB rfl) rfl (E rfl (B.je rfl un60) (Cp rfl rfl (fun h1=>?_) (fun h1=>?_)))
 ·exact Rt rfl (leaf (val0:=vI 5) (by kernel_rfl) (li (by (unfold jt;rw[zl (by omega)];rfl))))
 refine l1 (fun (k:Nat)=>[(0,vL eF l),(3,vI k)]) (fun _=>[]) (fun k=>k<=l.length/\l.length<=24/\jt l=fGo l (l.length-k) k) (fun k=>l.length-k) 0 rfl ?_ (sb rfl rfl rfl) ?_
 · (exact⟨zq _,by omega,by unfold jt;rw[zk (by omega)];rfl⟩)
 intro k hI0
 refine E rfl (B.je rfl un60) (Cp rfl rfl (fun h2=>?_) (fun h2=>?_))
 ·refine E rfl (B.idx (z:=([],[])) (i:=k) rfl rfl un60 sz175 (fun _=>rfl) rfl (by omega)) (C rfl (w118 (l.getD k ([],[]))) rfl rfl rfl (Cp rfl rfl (fun h3=>?_) (fun h3=>?_)))
  ·exact Rt rfl (leaf (val0:=vI (chkF (l.getD k ([],[])))) (by kernel_rfl) (li (by (rw[hI0.2.2,fGo_err (by omega) (by rw[f_bad h3];exact h3),f_bad h3]))))
  refine Eg rfl rfl (fun hc=>B.move rfl) rfl (Eg rfl rfl (fun hc=>B.move rfl) rfl (Eg rfl rfl (fun hc=>B.idx (z:=([],[])) (i:=k) (qy rfl hc) (qy rfl hc) un60 sz175 (fun _=>rfl) rfl (by omega)) rfl (Eg rfl rfl (fun hc=>B.fadP (qy rfl hc) fa175_0 rfl) rfl (Eg rfl rfl (fun hc=>B.loadP (qy rfl hc) ag9 sz9) rfl (Eg rfl rfl (fun hc=>B.move rfl) rfl (Eg rfl rfl (fun hc=>B.move rfl) rfl (Eg rfl rfl (fun hc=>B.sub (qy rfl hc) rfl (by unfold R64;omega)) rfl (Eg rfl rfl (fun hc=>B.idx (z:=([],[])) (i:=(k-1)) (qy rfl hc) (qy rfl hc) un60 sz175 (fun _=>rfl) (by (have hc2:=hc;simp at hc2;omega)) (by omega)) rfl (Eg rfl rfl (fun hc=>B.fadP (qy rfl hc) fa175_0 rfl) rfl (Eg rfl rfl (fun hc=>B.loadP (qy rfl hc) ag9 sz9) rfl (Eg rfl rfl (fun hc=>B.sleB (a:=(l.getD k ([],[])).1) (b:=(l.getD (k-1) ([],[])).1) (qy rfl hc) (qy rfl hc)) rfl (E rfl (B.pick rfl rfl rfl (gdB rfl) rfl (qL _)) (Dr rfl (by kernel_rfl) (Cb rfl rfl (fun h4=>?_) (fun h4=>?_)))))))))))))))
  ·exact Rt rfl (leaf (val0:=vI 11) (by kernel_rfl) (li (by (rw[hI0.2.2,fGo_err (by omega) (by rw[f_ord h3 h4];decide),f_ord h3 h4]))))
  refine E rfl (B.add rfl rfl (by unfold R64;omega)) (pk rfl (L1 (k+1) ?_ ?_ (sb rfl rfl rfl)))
  · (refine⟨by omega,hI0.2.1,?_⟩;rw[hI0.2.2];exact fGo_step (by omega) (f_ok h3 h4))
  · omega
 exact Rt rfl (leaf (val0:=vI 0) (by kernel_rfl) (li (by (rw[hI0.2.2,show l.length-k=0 by omega];rfl))))
theorem w34 (l:List Fld) (hl:l.length*32<=140737488355328):CKa 34 [vL eF l] (vL eF l):=by
 refine cG qf34 rfl (nB rfl) rfl (E rfl (B.j4 (enc:=eF) rfl) (E rfl (B.adopt 4 2 175 rfl rfl) (E rfl (B.je rfl un59) (l3 (fun (k:Nat) (v:Nat) (out:List Fld)=>[(3,.aref 4 v),(6,vL eF l),(7,vI l.length),(8,vI k)]) (fun _ v out=>[(4,.arr v 2 175 (List.map eF out))]) (fun k _ out=>k<=l.length/\out=List.take k l) (fun k _ _=>l.length-k) 0 0 [] rfl ?_ (sb rfl rfl rfl) ?_))))
 · exact⟨zq _,rfl⟩
 intro k v out hI0
 have hol:out.length<=k:=by rw[hI0.2,zn];omega
 refine Cp rfl rfl (fun h1=>?_) (fun h1=>?_)
 ·refine E rfl (B.idx (z:=([],[])) (i:=k) rfl rfl un59 sz174 (fun _=>rfl) rfl (by omega)) (E rfl (B.jj (val:=.pv (.slice (List.map eF [(l.getD k ([],[]))]))) rfl (fun l=>Frz.arr l _ _ _ _ _) rfl) (E rfl (B.append rfl rfl rfl un60 in175 rfl (fun _=>rfl) by175 (by (simp only[za,zb,zd,zn];omega))) (E rfl (B.add rfl rfl (by unfold R64;omega)) (pk rfl (L3 (k+1) (v+1) (out++[(l.getD k ([],[]))]) ?_ ?_ (sb rfl rfl rfl))))))
  · (refine⟨by omega,?_⟩;rw[hI0.2];exact (take_fld l k (by omega)).symm)
  · omega
 exact Fz 7 3 rfl rfl rfl (Rt rfl (leaf (val0:=vL eF out) (by kernel_rfl) (lsl (by rw[hI0.2,zx (by omega)]))))
theorem w42 (a b:List Fld) (hl:a.length<=1000000000000000):CKa 42 [vL eF a,vL eF b] (vB (decide (a=b))):=by
 refine cG qf42 rfl (nB rfl) rfl (E rfl (B.je rfl un60) (E rfl (B.je rfl un60) (Cp rfl rfl (fun h1=>?_) (fun h1=>?_))))
 ·exact Rt rfl (leaf (val0:=vB false) (by kernel_rfl) (lb (by exact (zk fun e=>by subst e;omega).symm)))
 refine l1 (fun (k:Nat)=>[(0,vL eF a),(1,vL eF b),(5,vI k)]) (fun _=>[]) (fun k=>k<=a.length/\a.length=b.length/\∀ j,j<k->List.getD a j ([],[])=List.getD b j ([],[])) (fun k=>a.length-k) 0 rfl ?_ (sb rfl rfl rfl) ?_
 · exact⟨zq _,by omega,fun j hj=>by omega⟩
 intro k hI0
 refine E rfl (B.je rfl un60) (Cp rfl rfl (fun h2=>?_) (fun h2=>?_))
 ·refine E rfl (B.idx (z:=([],[])) (i:=k) rfl rfl un60 sz175 (fun _=>rfl) rfl (by omega)) (E rfl (B.idx (z:=([],[])) (i:=k) rfl rfl un60 sz175 (fun _=>rfl) rfl (by omega)) (E rfl (B.st2neq rfl rfl ff175) (Dr rfl (by kernel_rfl) (Cb rfl rfl (fun h3=>?_) (fun h3=>?_)))))
  ·exact Rt rfl (leaf (val0:=vB false) (by kernel_rfl) (lb (by exact (zk fun e=>by subst e;exact st_ne h3 rfl).symm)))
  refine E rfl (B.add rfl rfl (by unfold R64;omega)) (pk rfl (L1 (k+1) ?_ ?_ (sb rfl rfl rfl)))
  · (refine⟨by omega,hI0.2.1,fun j hj=>?_⟩;rcases zy.1 hj with h|h;exact hI0.2.2 j h;subst h;exact st_eq h3)
  · omega
 exact Rt rfl (leaf (val0:=vB true) (by kernel_rfl) (lb (by exact (zl (eq_getD ([],[]) hI0.2.1 fun j hj=>hI0.2.2 j (by omega))).symm)))
theorem w45 (a b:List (List UInt8)) (hl:a.length<=1000000000000000):CKa 45 [vL eN a,vL eN b] (vB (decide (a=b))):=by
 refine cG qf45 rfl (nB rfl) rfl (E rfl (B.je rfl ji) (E rfl (B.je rfl ji) (Cp rfl rfl (fun h1=>?_) (fun h1=>?_))))
 ·exact Rt rfl (leaf (val0:=vB false) (by kernel_rfl) (lb (by exact (zk fun e=>by subst e;omega).symm)))
 refine l1 (fun (k:Nat)=>[(0,vL eN a),(1,vL eN b),(5,vI k)]) (fun _=>[]) (fun k=>k<=a.length/\a.length=b.length/\∀ j,j<k->List.getD a j []=List.getD b j []) (fun k=>a.length-k) 0 rfl ?_ (sb rfl rfl rfl) ?_
 · exact⟨zq _,by omega,fun j hj=>by omega⟩
 intro k hI0
 refine E rfl (B.je rfl ji) (Cp rfl rfl (fun h2=>?_) (fun h2=>?_))
 ·refine E rfl (B.idx (z:=[]) (i:=k) rfl rfl ji sz9 (fun _=>rfl) rfl (by omega)) (E rfl (B.idx (z:=[]) (i:=k) rfl rfl ji sz9 (fun _=>rfl) rfl (by omega)) (E rfl (B.sneB (a:=(a.getD k [])) (b:=(b.getD k [])) rfl rfl) (Dr rfl (by kernel_rfl) (Cp rfl rfl (fun h3=>?_) (fun h3=>?_)))))
  ·exact Rt rfl (leaf (val0:=vB false) (by kernel_rfl) (lb (by exact (zk fun e=>by subst e;exact h3 rfl).symm)))
  refine E rfl (B.add rfl rfl (by unfold R64;omega)) (pk rfl (L1 (k+1) ?_ ?_ (sb rfl rfl rfl)))
  · (refine⟨by omega,hI0.2.1,fun j hj=>?_⟩;rcases zy.1 hj with h|h;exact hI0.2.2 j h;subst h;exact zi.1 h3)
  · omega
 exact Rt rfl (leaf (val0:=vB true) (by kernel_rfl) (lb (by exact (zl (eq_getD [] hI0.2.1 fun j hj=>hI0.2.2 j (by omega))).symm)))
theorem w53 (l:List Fld) (n:List UInt8) (hl:l.length<=1000000000000000):CKa 53 [vL eF l,vS (bsO n)] (.tup [vS (bsO (Option.getD (jl n l) [])),vB (Option.isSome (jl n l))]):=by
 refine cG qf53 rfl (nB rfl) rfl (l1 (fun (k:Nat)=>[(0,vL eF l),(1,vS (bsO n)),(6,vI k)]) (fun _=>[]) (fun k=>k<=l.length/\jl n l=jl n (List.drop k l)) (fun k=>l.length-k) 0 rfl ?_ (sb rfl rfl rfl) ?_)
 · exact⟨zq _,rfl⟩
 intro k hI0
 refine E rfl (B.je rfl un60) (Cp rfl rfl (fun h1=>?_) (fun h1=>?_))
 ·refine E rfl (B.idx (z:=([],[])) (i:=k) rfl rfl un60 sz175 (fun _=>rfl) rfl (by omega)) (E rfl (B.seqB (a:=(l.getD k ([],[])).1) (b:=n) rfl rfl) (Cp rfl rfl (fun h2=>?_) (fun h2=>?_)))
  ·exact E rfl (B.idx (z:=([],[])) (i:=k) rfl rfl un60 sz175 (fun _=>rfl) rfl (by omega)) (Rt rfl (leaf (val0:=.tup [vS (bsO (l.getD k ([],[])).2),vB true]) (by kernel_rfl) (tup2 (ls (by (rw[hI0.2,getF_hit (by omega) h2];rfl))) (lb (by (rw[hI0.2,getF_hit (by omega) h2];rfl))))))
  refine E rfl (B.add rfl rfl (by unfold R64;omega)) (pk rfl (L1 (k+1) ?_ ?_ (sb rfl rfl rfl)))
  · (refine⟨by omega,?_⟩;rw[hI0.2];exact getF_skip (by omega) h2)
  · omega
 exact Rt rfl (leaf (val0:=.tup [vS (bsO []),vB false]) (by kernel_rfl) (tup2 (ls (by (rw[hI0.2,zX (by omega)];rfl))) (lb (by (rw[hI0.2,zX (by omega)];rfl)))))
theorem w88 (l:List (List UInt8)) (n:List UInt8) (hl:l.length<=1000000000000000):CKa 88 [vL eN l,vS (bsO n)] (vB (List.any l (fun y=>decide (y=n)))):=by
 refine cG qf88 rfl (nB rfl) rfl (l1 (fun (k:Nat)=>[(0,vL eN l),(1,vS (bsO n)),(5,vI k)]) (fun _=>[]) (fun k=>k<=l.length/\∀ j,j<k->¬(l.getD j []=n)) (fun k=>l.length-k) 0 rfl ?_ (sb rfl rfl rfl) ?_)
 · exact⟨zq _,fun j hj=>by omega⟩
 intro k hI0
 refine E rfl (B.je rfl ji) (Cp rfl rfl (fun h1=>?_) (fun h1=>?_))
 ·refine E rfl (B.idx (z:=[]) (i:=k) rfl rfl ji sz9 (fun _=>rfl) rfl (by omega)) (E rfl (B.seqB (a:=(l.getD k [])) (b:=n) rfl rfl) (Cp rfl rfl (fun h2=>?_) (fun h2=>?_)))
  ·exact Rt rfl (leaf (val0:=vB true) (by kernel_rfl) (lb (by (exact (List.any_eq_true.2 ⟨_,getD_mem (z:=[]) (show k<l.length by omega),zl h2⟩).symm))))
  refine E rfl (B.add rfl rfl (by unfold R64;omega)) (pk rfl (L1 (k+1) ?_ ?_ (sb rfl rfl rfl)))
  · (refine⟨by omega,fun j hj=>?_⟩;rcases zy.1 hj with h|h;exact hI0.2 j h;subst h;exact h2)
  · omega
 exact Rt rfl (leaf (val0:=vB false) (by kernel_rfl) (lb (by (exact (any_getD_none [] (fun j hj=>zk (hI0.2 j (by omega)))).symm))))
end Go.Lens.Tm
end
section
namespace Go.Lens.Tm
open Go.Lens.Tb Go.Proofs
theorem permI_high {c:Int} (h:128<=c):kD c=false:=by
 unfold kD
 rw[zk (p:=c<=122) (by omega),zk (p:=c<=90) (by omega),zk (p:=c<=57) (by omega),zk (p:=c=46) (by omega),zk (p:=c=45) (by omega),zk (p:=c=47) (by omega),zk (p:=c=95) (by omega)]
 simp
theorem rune_perm {s:ByteArray} {p:Nat} (h:p<s.size):kD (((Utf8.decode s p).1:Nat):Int)=kD (byteAt s p)/\(kD (byteAt s p)=true->(Utf8.decode s p).2=1):=by
 rw[byteAt_get h]
 rcases Nat.lt_or_ge (s[p]'h).toNat 128 with ha|ha
 ·rw[decode_ascii s p h ha]
  exact⟨rfl,fun _=>rfl⟩
 have:=decode_high s p h ha
 rw[permI_high (by omega),permI_high (by omega)]
 exact⟨rfl,fun h=>by cases h⟩
theorem rune_pq {s:List UInt8} {p:Nat} (h:p<(bsO s).size) {b:Bool} (hb:((!(kD (((Utf8.decode (bsO s) p).1:Nat):Int)))==true)=b):kD (((s.getD p 0).toNat:Nat):Int)=!b:=by
 rw[(rune_perm h).1] at hb
 have hb:((!(kD (((s.getD p 0).toNat:Nat):Int)))==true)=b:=hb
 rw[<-hb]
 cases kD (((s.getD p 0).toNat:Nat):Int)<;>rfl
theorem rune_w {s:List UInt8} {p:Nat} (h:p<(bsO s).size) (hb:kD (((s.getD p 0).toNat:Nat):Int)=true):(Utf8.decode (bsO s) p).2=1:=(rune_perm h).2 hb
theorem perm_any (s:List UInt8):(!(List.any s (fun b=>!(kD ((b.toNat:Nat):Int)))))=permS s:=by
 unfold permS
 rw[List.not_any_eq_all_not]
 simp
end Go.Lens.Tm
end
section
namespace Go.Lens.Tm
open Go.Lens.Tb Go.Proofs
variable [Lz]
set_option maxHeartbeats 2000000
set_option maxRecDepth 100000
attribute [local irreducible] TK PK T RG EfR Body CG
theorem un4:tab.underlying 4=some (.bool):=by kernel_rfl
theorem w174 (c:Int):CKa 174 [.pv (.lit (.int .i32 c))] (vB (!(kD c))):=by
 refine cG qf174 rfl (nB rfl) rfl (Eg rfl rfl (fun hc=>B.move rfl) rfl (Eg rfl rfl (fun hc=>B.gtr (qy rfl hc) rfl) rfl (E rfl (B.pick rfl rfl rfl rfl (gdB rfl) (qZ _)) (Eg rfl rfl (fun hc=>B.move rfl) rfl (Eg rfl rfl (fun hc=>B.lss (qy rfl hc) rfl) rfl (Eg rfl rfl (fun hc=>B.move (qy rfl hc)) rfl (Eg rfl rfl (fun hc=>B.move rfl) rfl (Eg rfl rfl (fun hc=>B.gtr (qy rfl hc) rfl) rfl (Eg rfl rfl (fun hc=>B.pick (qy rfl hc) rfl rfl rfl (gdB rfl) (pick_or2 hc)) rfl (E rfl (B.pick rfl rfl rfl (gdB rfl) rfl (qL _)) (Eg rfl rfl (fun hc=>B.move rfl) rfl (Eg rfl rfl (fun hc=>B.lss (qy rfl hc) rfl) rfl (Eg rfl rfl (fun hc=>B.move (qy rfl hc)) rfl ?_)))))))))))))
 refine Eg rfl rfl (fun hc=>B.move rfl) rfl (Eg rfl rfl (fun hc=>B.gtr (qy rfl hc) rfl) rfl (Eg rfl rfl (fun hc=>B.pick (qy rfl hc) rfl rfl rfl (gdB rfl) (pick_or2 hc)) rfl (E rfl (B.pick rfl rfl rfl (gdB rfl) rfl (qL _)) (Eg rfl rfl (fun hc=>B.move rfl) rfl (Eg rfl rfl (fun hc=>B.neq (qy rfl hc) rfl) rfl (E rfl (B.pick rfl rfl rfl (gdB rfl) rfl (qL _)) (Eg rfl rfl (fun hc=>B.move rfl) rfl (Eg rfl rfl (fun hc=>B.neq (qy rfl hc) rfl) rfl (E rfl (B.pick rfl rfl rfl (gdB rfl) rfl (qL _)) (Eg rfl rfl (fun hc=>B.move rfl) rfl (Eg rfl rfl (fun hc=>B.neq (qy rfl hc) rfl) rfl (E rfl (B.pick rfl rfl rfl (gdB rfl) rfl (qL _)) (Eg rfl rfl (fun hc=>B.move rfl) rfl ?_)))))))))))))
 exact Eg rfl rfl (fun hc=>B.neq (qy rfl hc) rfl) rfl (E rfl (B.pick rfl rfl rfl (gdB rfl) rfl (qL _)) (Rt rfl (leaf (val0:=vB (bif (bif (bif (bif (bif (bif (bif (decide (c<97)) then true else (decide (122<c))) then (bif (decide (c<65)) then true else (decide (90<c))) else false) then (bif (decide (c<48)) then true else (decide (57<c))) else false) then (decide (c≠46)) else false) then (decide (c≠45)) else false) then (decide (c≠47)) else false) then (decide (c≠95)) else false)) (by kernel_rfl) (lb (by rw[perm_not];simp only[jy,js])))))
theorem w292 (s:List UInt8) (hl:s.length<=1000000000000000):CKa 292 [vS (bsO s),.pv (.fn (.func 174) [] []),vB true] (vI (kJ (fun b=>!(kD ((b.toNat:Nat):Int))) s)):=by
 refine cG qf292 rfl (nB rfl) rfl (E rfl (B.rangeS rfl un9 rfl rfl) (l1 (fun (p:Nat)=>[(1,.pv (.fn (.func 174) [] [])),(2,vB true),(10,.bref 11 0)]) (fun p=>[(11,.siter (bsO s) p)]) (fun p=>p<=s.length/\∀ j,j<p->kD (((s.getD j 0).toNat:Nat):Int)=true) (fun p=>s.length-p) 0 rfl ?_ (sb rfl rfl rfl) ?_))
 · exact⟨zq _,fun j hj=>by omega⟩
 intro p hI0
 refine Nx rfl rfl rfl (fun h1=>?_) (fun h1=>?_)
 ·refine CT rfl rfl (C rfl (w174 (((Utf8.decode (bsO s) p).1:Nat):Int)) rfl rfl rfl (E rfl (B.bqB rfl rfl un4) (Cb rfl rfl (fun h2=>?_) (fun h2=>?_))))
  ·exact Rt rfl (leaf (val0:=vI p) (by kernel_rfl) (li (by (have hn:=rune_pq h1 h2;have hz:p<s.length:=h1;exact (k8 (p:=(fun b=>!(kD ((b.toNat:Nat):Int)))) (l:=s) (z:=0) p hz (fun j hj=>by rw[hI0.2 j hj];rfl) (by rw[hn];rfl)).symm))))
  refine pk rfl (L1 (p+(Utf8.decode (bsO s) p).2) ?_ ?_ (sb rfl rfl rfl))
  · (have hn:=rune_pq h1 h2;have hz:p<s.length:=h1;rw[rune_w h1 hn];refine⟨by omega,fun j hj=>?_⟩;rcases zy.1 hj with h|h;exact hI0.2 j h;subst h;exact hn)
  · (have hn:=rune_pq h1 h2;have hz:p<s.length:=h1;rw[rune_w h1 hn];omega)
 exact CF rfl rfl (Rt rfl (leaf (val0:=vI (-1)) (by kernel_rfl) (li (by (have hz:¬p<s.length:=h1;exact (kB (p:=(fun b=>!(kD ((b.toNat:Nat):Int)))) (l:=s) (z:=0) fun j hj=>by rw[hI0.2 j (by omega)];rfl).symm)))))
theorem w247 (s:List UInt8) (hl:s.length<=1000000000000000):CKa 247 [vS (bsO s),.pv (.fn (.func 174) [] [])] (vI (kJ (fun b=>!(kD ((b.toNat:Nat):Int))) s)):=by
 exact cG qf247 rfl (nB rfl) rfl (C rfl (w292 s (by omega)) rfl rfl rfl (Rt rfl (leaf rfl rfl)))
theorem w173 (s:List UInt8) (hl:s.length<=1000000000000000):CKa 173 [vS (bsO s),.pv (.fn (.func 174) [] [])] (vB (List.any s (fun b=>!(kD ((b.toNat:Nat):Int))))):=by
 exact cG qf173 rfl (nB rfl) rfl (C rfl (w247 s (by omega)) rfl rfl rfl (Rt rfl (leaf (val0:=vB (decide (0<=(kJ (fun b=>!(kD ((b.toNat:Nat):Int))) s)))) (by kernel_rfl) (lb (by exact j0 s)))))
theorem w120 (s:List UInt8) (hl:s.length<=1000000000000000):CKa 120 [vS (bsO s)] (vB (permS s)):=by
 exact cG qf120 rfl (nB rfl) rfl (C rfl (w173 s (by omega)) rfl rfl rfl (Rt rfl (leaf (val0:=vB (!(List.any s (fun b=>!(kD ((b.toNat:Nat):Int)))))) (by kernel_rfl) (lb (by exact perm_any s)))))
theorem w41 (l:List Fld) (hl:l.length<=1000000000000000) (hc:∀ f∈l,f.2.length<=1000000000000000):CKa 41 [vL eF l] (vI (jt l)):=by
 refine cG qf41 rfl (nB rfl) rfl (E rfl (B.je rfl un59) (Cp rfl rfl (fun h1=>?_) (fun h1=>?_)))
 ·exact Rt rfl (leaf (val0:=vI 5) (by kernel_rfl) (li (by (unfold jt;rw[zl (by omega)];rfl))))
 refine E rfl (B.je rfl un59) (l1 (fun (k:Nat)=>[(0,vL eF l),(10,vL eF l),(11,vI l.length),(12,vI k)]) (fun _=>[]) (fun k=>k<=l.length/\l.length<=24/\jt l=fGo l (l.length-k) k) (fun k=>l.length-k) 0 rfl ?_ (sb rfl rfl rfl) ?_)
 · (exact⟨zq _,by omega,by unfold jt;rw[zk (by omega)];rfl⟩)
 intro k hI0
 refine Cp rfl rfl (fun h2=>?_) (fun h2=>?_)
 ·refine E rfl (B.idx (z:=([],[])) (i:=k) rfl rfl un59 sz174 (fun _=>rfl) rfl (by omega)) (E rfl (B.sub rfl rfl (by unfold R64;omega)) (E rfl (B.max rfl rfl) (E rfl (B.idx (z:=([],[])) (i:=(k-1)) rfl rfl un59 sz174 (fun _=>rfl) (by omega) (by omega)) ?_)))
  have hck:=hc _ (getD_mem (l:=l) (k:=k) (z:=([],[])) (by omega))
  refine C rfl (w104 (bsO (l.getD k ([],[])).1)) rfl rfl rfl (E rfl (B.lenB (a:=(l.getD k ([],[])).2) rfl un9) (C rfl (w101 (decide (60<((List.length (l.getD k ([],[])).2:Nat):Int))) 26) rfl rfl rfl (C rfl (w120 (l.getD k ([],[])).2 (by omega)) rfl rfl rfl (C rfl (w101 (!(permS (l.getD k ([],[])).2)) 1) rfl rfl rfl (Eg rfl rfl (fun hc=>B.fadB rfl fa174_0 rfl) rfl (Eg rfl rfl (fun hc=>B.jM (qy rfl hc) rfl rfl ag9 sz9 rfl) rfl (Eg rfl rfl (fun hc=>B.fadB rfl fa174_0 rfl) rfl (Eg rfl rfl (fun hc=>B.jM (qy rfl hc) rfl rfl ag9 sz9 rfl) rfl (Eg rfl rfl (fun hc=>B.sleB (a:=(l.getD k ([],[])).1) (b:=(l.getD (k-1) ([],[])).1) (qy rfl hc) (qy rfl hc)) rfl (E rfl (B.pick rfl rfl rfl (gdB rfl) rfl (qL _)) (C rfl (w101 (bif (decide (0<(k:Int))) then (leS (l.getD k ([],[])).1 (l.getD (k-1) ([],[])).1) else false) 11) rfl rfl rfl (E rfl (B.jj (val:=.pv (.slice (List.map eI [(qF (!(qY (bsO (l.getD k ([],[])).1))) 8),(qF (decide (60<((List.length (l.getD k ([],[])).2:Nat):Int))) 26),(qF (!(permS (l.getD k ([],[])).2)) 1),(qF (bif (decide (0<(k:Int))) then (leS (l.getD k ([],[])).1 (l.getD (k-1) ([],[])).1) else false) 11)]))) rfl (fun l=>Frz.arr l _ _ _ _ _) rfl) (C rfl (w100 [(qF (!(qY (bsO (l.getD k ([],[])).1))) 8),(qF (decide (60<((List.length (l.getD k ([],[])).2:Nat):Int))) 26),(qF (!(permS (l.getD k ([],[])).2)) 1),(qF (bif (decide (0<(k:Int))) then (leS (l.getD k ([],[])).1 (l.getD (k-1) ([],[])).1) else false) 11)] (nB rfl)) rfl rfl rfl ?_)))))))))))))
  refine Dr rfl (by kernel_rfl) (Cp rfl rfl (fun h3=>?_) (fun h3=>?_))
  ·exact Rt rfl (leaf (val0:=vI (qP [(qF (!(qY (bsO (l.getD k ([],[])).1))) 8),(qF (decide (60<((List.length (l.getD k ([],[])).2:Nat):Int))) 26),(qF (!(permS (l.getD k ([],[])).2)) 1),(qF (bif (decide (0<(k:Int))) then (leS (l.getD k ([],[])).1 (l.getD (k-1) ([],[])).1) else false) 11)])) (by kernel_rfl) (li (by (rw[first_fld] at h3 ⊢;rw[hI0.2.2,fGo_err (by omega) h3]))))
  refine E rfl (B.add rfl rfl (by unfold R64;omega)) (pk rfl (L1 (k+1) ?_ ?_ (sb rfl rfl rfl)))
  · (refine⟨by omega,hI0.2.1,?_⟩;rw[hI0.2.2];rw[first_fld] at h3;exact fGo_step (by omega) (zi.1 h3))
  · omega
 exact Rt rfl (leaf (val0:=vI 0) (by kernel_rfl) (li (by (rw[hI0.2.2,show l.length-k=0 by omega];rfl))))
end Go.Lens.Tm
end
section
namespace Go.Lens.Tm
open Go.Lens.Tb Go.Proofs
def insGo (x:List UInt8):List (List UInt8)->List (List UInt8)
 | []=>[x]
 | y::l=>bif ltS y x then y::insGo x l else x::y::l
def insS (x:List UInt8) (l:List (List UInt8)):List (List UInt8):=bif List.any l (fun y=>decide (y=x)) then l else insGo x l
theorem insGo_at (x:List UInt8):∀ (l:List (List UInt8)) (k:Nat),k<=l.length->(∀ j,j<k->ltS (l.getD j []) x=true)->(k<l.length->ltS (l.getD k []) x=false)->insGo x l=(l.take k++[x])++l.drop k
 | [],k,hk,_,_=>by
  have:k=0:=by simpa using hk
  subst this;rfl
 | y::l,0,_,_,h=>by
  have h0:ltS y x=false:=h (by simp)
  simp only[insGo,h0,cond_false];rfl
 | y::l,k+1,hk,h1,h2=>by
  have h0:ltS y x=true:=h1 0 (by omega)
  simp only[insGo,h0,cond_true]
  rw[insGo_at x l k (by simpa using hk) (fun j hj=>by simpa using h1 (j+1) (by omega)) (fun hj=>by simpa using h2 (by simpa using hj))]
  simp
theorem insS_len (x:List UInt8) (l:List (List UInt8)):(insS x l).length<=l.length+1:=by
 unfold insS
 cases List.any l (fun y=>decide (y=x)) with
 | true=>simp
 | false=>
  have:∀ l:List (List UInt8),(insGo x l).length=l.length+1:=by
   intro l
   induction l with
   | nil=>rfl
   | cons y l ih=>
    simp only[insGo]
    cases ltS y x<;>simp[ih]
  simp[this]
theorem ins_q {l:List (List UInt8)} {x:List UInt8} {k:Nat} {b:Bool} (hk:k<l.length) (h:(bif decide (((k:Nat):Int)<((l.length:Nat):Int)) then ltS (l.getD k []) x else false)=b):ltS (l.getD k []) x=b:=by
 rw[zl (by omega)] at h;exact h
theorem ins_lt {l:List (List UInt8)} {x:List UInt8} {k:Nat} (h:(bif decide (((k:Nat):Int)<((l.length:Nat):Int)) then ltS (l.getD k []) x else false)=true):k<l.length:=by
 by_cases hk:k<l.length
 ·exact hk
 rw[zk (by omega)] at h;cases h
def Zr:List UInt8->List UInt8->List (List UInt8)
 | acc,[]=>[acc]
 | acc,c::r=>bif decide (((c.toNat:Nat):Int)=32) then acc::Zr [] r else Zr (acc++[c]) r
def jX (s:List UInt8):List (List UInt8):=Zr [] s
theorem mid_snoc {s:List UInt8} {i f:Nat} (hf:f<=i) (hi:i<s.length):(s.take (i+1)).drop f=(s.take i).drop f++[s.getD i 0]:=by
 have e:s.take (i+1)=s.take i++[s.getD i 0]:=by
  rw[List.take_add_one,zm hi,ze,zm hi];rfl
 rw[e,List.drop_append_of_le_length (by rw[zn];omega)]
theorem spl_no {s:List UInt8} {i f:Nat} (hf:f<=i) (hi:i<s.length) (h:¬((s.getD i 0).toNat:Int)=32):Zr ((s.take i).drop f) (s.drop i)=Zr ((s.take (i+1)).drop f) (s.drop (i+1)):=by
 rw[drop_at s i 0 hi,Zr,zk h,cond_false,mid_snoc hf hi]
theorem spl_yes {s:List UInt8} {i f:Nat} (hi:i<s.length) (h:((s.getD i 0).toNat:Int)=32):Zr ((s.take i).drop f) (s.drop i)=(s.take i).drop f::Zr ((s.take (i+1)).drop (i+1)) (s.drop (i+1)):=by
 rw[drop_at s i 0 hi,Zr,zl h,cond_true]
 congr 2
 rw[zX (by rw[zn];omega)]
theorem spl_end {s:List UInt8} {i f:Nat} (hi:i=s.length):Zr ((s.take i).drop f) (s.drop i)=[(s.take i).drop f]:=by
 have e:s.drop i=[]:=zX (by omega)
 rw[e];rfl
def SplI (s:List UInt8) (i f:Nat) (out:List (List UInt8)):Prop:=f<=i/\out.length<=i/\((i<=s.length/\jX s=out++Zr ((s.take i).drop f) (s.drop i))\/(i=s.length+1/\jX s=out))
theorem splI0 (s:List UInt8):SplI s 0 0 []:=⟨zz _,zq _,.inl ⟨zq _,rfl⟩⟩
theorem spl_at {s:List UInt8} {i f:Nat} {out:List (List UInt8)} (h:SplI s i f out) (hi:((i:Nat):Int)<=((s.length:Nat):Int)):f<=i/\out.length<=i/\i<=s.length/\jX s=out++Zr ((s.take i).drop f) (s.drop i):=by
 obtain⟨h1,h2,⟨h3,h4⟩|⟨h3,_⟩⟩:=h
 ·exact⟨h1,h2,h3,h4⟩
 omega
theorem spl_out {s:List UInt8} {i f:Nat} {out:List (List UInt8)} (h:SplI s i f out) (hi:¬((i:Nat):Int)<=((s.length:Nat):Int)):out=jX s:=by
 obtain⟨_,_,⟨h3,_⟩|⟨_,h4⟩⟩:=h
 ·omega
 exact h4.symm
theorem spl_c {s:List UInt8} {i:Nat} (hi:i<=s.length) {b:Bool} (h:(bif decide (((i:Nat):Int)=((s.length:Nat):Int)) then true else decide ((byteAt (bsO s) i)=32))=b) :
 (b=true->i=s.length\/(i<s.length/\((s.getD i 0).toNat:Int)=32))/\(b=false->i<s.length/\¬((s.getD i 0).toNat:Int)=32):=by
 have e:byteAt (bsO s) i=((s.getD i 0).toNat:Int):=rfl
 rw[e,jy] at h
 constructor
 ·rintro rfl
  simp only[Bool.or_eq_true,zf] at h
  rcases h with h|h
  ·exact .inl (by omega)
  by_cases hq:i=s.length
  ·exact .inl hq
  exact .inr ⟨by omega,h⟩
 rintro rfl
 simp only[qc,zH] at h
 exact⟨by omega,h.2⟩
theorem spl_stepY {s:List UInt8} {i f:Nat} {out:List (List UInt8)} (h:SplI s i f out) (hi:((i:Nat):Int)<=((s.length:Nat):Int)) (h3:(bif decide (((i:Nat):Int)=((s.length:Nat):Int)) then true else decide ((byteAt (bsO s) i)=32))=true):SplI s (i+1) (i+1) (out++[(s.take i).drop f]):=by
 obtain⟨h1,h2,h4,h5⟩:=spl_at h hi
 refine⟨zz _,by simp only[za,zb,zd];omega,?_⟩
 rcases (spl_c h4 h3).1 rfl with hq|⟨hq,hc⟩
 ·right;rw[spl_end hq] at h5;exact⟨by omega,h5⟩
 left;rw[spl_yes hq hc] at h5
 exact⟨by omega,by rw[h5,z7];rfl⟩
theorem spl_stepN {s:List UInt8} {i f:Nat} {out:List (List UInt8)} (h:SplI s i f out) (hi:((i:Nat):Int)<=((s.length:Nat):Int)) (h3:(bif decide (((i:Nat):Int)=((s.length:Nat):Int)) then true else decide ((byteAt (bsO s) i)=32))=false):SplI s (i+1) f out:=by
 obtain⟨h1,h2,h4,h5⟩:=spl_at h hi
 obtain⟨hq,hc⟩:=(spl_c h4 h3).2 rfl
 exact⟨by omega,by omega,.inl ⟨by omega,by rw[h5,spl_no h1 hq hc]⟩⟩
def fldP (f:Fld):List UInt8:=(f.1++[61])++f.2
def prtK (l:List Fld):Nat->List UInt8
 | 0=>[]
 | k+1=>((bif decide (0<k) then prtK l k++[32] else prtK l k)++(l.getD k ([],[])).1++[61])++(l.getD k ([],[])).2
def prtF (l:List Fld):List UInt8:=prtK l l.length
theorem prtK_len (l:List Fld) (N:Nat) (h:∀ f∈l,f.1.length<=N/\f.2.length<=N):∀ k,k<=l.length->(prtK l k).length<=k*(2*N+2)
 | 0,_=>by simp[prtK]
 | k+1,hk=>by
  have h1:=prtK_len l N h k (by omega)
  have h2:=h _ (getD_mem (l:=l) (k:=k) (z:=([],[])) (by omega))
  simp only[prtK]
  rw[Nat.add_mul]
  cases decide (0<k)<;>simp only[cond_true,cond_false,za,zb,zd]<;>omega
end Go.Lens.Tm
end
section
namespace Go.Lens.Tm
open Go.Lens.Tb Go.Proofs
variable [Lz]
set_option maxHeartbeats 2000000
set_option maxRecDepth 100000
attribute [local irreducible] TK PK T RG EfR Body CG
theorem w178 (l:List (List UInt8)) (n:List UInt8) (hl:l.length<=1000000):CKa 178 [vL eN l,vS (bsO n)] (vL eN (insS n l)):=by
 refine cG qf178 rfl (nB rfl) rfl (E rfl (B.j4 (enc:=eN) rfl) (C rfl (w88 l n (by omega)) rfl rfl rfl (Cb rfl rfl (fun h1=>?_) (fun h1=>?_))))
 ·exact Rt rfl (leaf (val0:=vL eN l) (by kernel_rfl) (lsl (by (unfold insS;rw[h1];rfl))))
 refine l1 (fun (k:Nat)=>[(0,vL eN l),(1,vS (bsO n)),(5,vI k)]) (fun _=>[]) (fun k=>k<=l.length/\∀ j,j<k->ltS (l.getD j []) n=true) (fun k=>l.length-k) 0 rfl ?_ (sb rfl rfl rfl) ?_
 · exact⟨zq _,fun j hj=>by omega⟩
 intro k hI0
 refine E rfl (B.je rfl ji) (Eg rfl rfl (fun hc=>B.move rfl) rfl (Eg rfl rfl (fun hc=>B.move rfl) rfl (Eg rfl rfl (fun hc=>B.idx (z:=[]) (i:=k) (qy rfl hc) (qy rfl hc) ji sz9 (fun _=>rfl) rfl (by (have hc2:=hc;simp at hc2;omega))) rfl (Eg rfl rfl (fun hc=>B.loadP (qy rfl hc) ag9 sz9) rfl (Eg rfl rfl (fun hc=>B.move rfl) rfl (Eg rfl rfl (fun hc=>B.sltB (a:=(l.getD k [])) (b:=n) (qy rfl hc) (qy rfl hc)) rfl (E rfl (B.pick rfl rfl rfl (gdB rfl) rfl (qL _)) (Cb rfl rfl (fun h2=>?_) (fun h2=>?_)))))))))
 ·refine E rfl (B.add rfl rfl (by unfold R64;omega)) (pk rfl (L1 (k+1) ?_ ?_ (sb rfl rfl rfl)))
  · (have hkl:=ins_lt h2;refine⟨by omega,fun j hj=>?_⟩;rcases zy.1 hj with h|h;exact hI0.2 j h;subst h;exact ins_q hkl h2)
  · (have hkl:=ins_lt h2;omega)
 exact E rfl (B.run rfl) (E rfl (B.slT (j:=k) rfl rfl ji sz9 rfl (by omega)) (E rfl (B.append (enc:=eN) (l:=[]) (r:=(List.take k l)) rfl rfl rfl ji in9 rfl (fun _=>rfl) by9 (by (simp only[za,zb,zd,zn,zo];omega))) (E rfl (B.jj (val:=.pv (.slice (List.map eN [n]))) rfl (fun l=>Frz.arr l _ _ _ _ _) rfl) (E rfl (B.append rfl rfl rfl ji in9 rfl (fun _=>rfl) by9 (by (simp only[za,zb,zd,zn,zo];omega))) (E rfl (B.slDL (i:=k) rfl rfl ji sz9 (fun _=>rfl) rfl (by omega)) (E rfl (B.append rfl rfl rfl ji in9 rfl (fun _=>rfl) by9 (by (simp only[za,zb,zd,zn,zo];omega))) (Dr rfl (by kernel_rfl) (Fz 9999 4 rfl rfl rfl (Rt rfl (leaf (val0:=vL eN (((List.take k l)++[n])++(List.drop k l))) (by kernel_rfl) (lsl (by (unfold insS;rw[h1,cond_false];exact (insGo_at n l k hI0.1 hI0.2 fun hk=>ins_q hk h2).symm)))))))))))))
theorem w119 (s:List UInt8) (hl:s.length<=1000000):CKa 119 [vS (bsO s)] (vL eN (jX s)):=by
 refine cG qf119 rfl (nB rfl) rfl (E rfl (B.j4 (enc:=eN) rfl) (E rfl (B.adopt 4 1 9 rfl rfl) (l4 (fun (i:Nat) (f:Nat) (v:Nat) (out:List (List UInt8))=>[(0,vS (bsO s)),(3,.aref 4 v),(4,vI f),(5,vI i)]) (fun _ _ v out=>[(4,.arr v 1 9 (List.map eN out))]) (fun i f _ out=>SplI s i f out) (fun i _ _ _=>s.length+1-i) 0 0 0 [] rfl ?_ (sb rfl rfl rfl) ?_)))
 · exact splI0 s
 intro i f v out hI0
 refine E rfl (B.lenB (a:=s) rfl un9) (Cp rfl rfl (fun h1=>?_) (fun h1=>?_))
 ·have hsp:=spl_at hI0 h1
  refine E rfl (B.lenB (a:=s) rfl un9) (Eg rfl rfl (fun hc=>B.move rfl) rfl (Eg rfl rfl (fun hc=>B.move rfl) rfl (Eg rfl rfl (fun hc=>B.sidx (i:=i) (qy rfl hc) (qy rfl hc) un9 rfl (show i<s.length from (by (have hc2:=hc;simp at hc2;omega)))) rfl (Eg rfl rfl (fun hc=>B.eql (qy rfl hc) rfl) rfl (E rfl (B.pick rfl rfl rfl rfl (gdB rfl) (qZ _)) (Cb rfl rfl (fun h2=>?_) (fun h2=>?_)))))))
  ·refine E rfl (B.slMB (a:=s) (i:=f) (j:=i) rfl rfl rfl un9 rfl rfl (by omega) (by omega)) (E rfl (B.jj (val:=.pv (.slice (List.map eN [(List.drop f (List.take i s))]))) rfl (fun l=>Frz.arr l _ _ _ _ _) rfl) (E rfl (B.append rfl rfl rfl ji in9 rfl (fun _=>rfl) by9 (by (simp only[za,zb,zd,zn,zo];omega))) (E rfl (B.add rfl rfl (by unfold R64;omega)) (E rfl (B.add rfl rfl (by unfold R64;omega)) (pk rfl (L4 (i+1) (i+1) (v+1) (out++[(List.drop f (List.take i s))]) ?_ ?_ (sb rfl rfl rfl)))))))
   · exact spl_stepY hI0 h1 h2
   · omega
  refine E rfl (B.add rfl rfl (by unfold R64;omega)) (pk rfl (L4 (i+1) f v out ?_ ?_ (sb rfl rfl rfl)))
  · exact spl_stepN hI0 h1 h2
  · omega
 exact Fz 9 3 rfl rfl rfl (Rt rfl (leaf (val0:=vL eN out) (by kernel_rfl) (lsl (by exact spl_out hI0 h1))))
theorem w39 (l:List Fld) (hl:l.length<=1000) (hb:∀ f∈l,f.1.length<=1000000/\f.2.length<=1000000):CKa 39 [vL eF l] (vS (bsO (prtF l))):=by
 refine cG qf39 rfl (nB rfl) rfl (l2 (fun (k:Nat) (q:List UInt8)=>[(0,vL eF l),(3,vS (bsO q)),(4,vI k)]) (fun _ _=>[]) (fun k q=>k<=l.length/\q=prtK l k) (fun k _=>l.length-k) 0 [] rfl ?_ (sb rfl rfl rfl) ?_)
 · exact⟨zq _,rfl⟩
 intro k q hI0
 refine E rfl (B.je rfl un60) (Cp rfl rfl (fun h1=>?_) (fun h1=>?_))
 ·have hkb:=hb _ (getD_mem (l:=l) (k:=k) (z:=([],[])) (by omega))
  have hpl:=prtK_len l 1000000 hb k (by omega)
  rw[<-hI0.2] at hpl
  have hpl2:q.length<=1000*(2*1000000+2):=qi hpl (Nat.mul_le_mul_right _ (by omega))
  refine Cp rfl rfl (fun h2=>?_) (fun h2=>?_)
  ·refine E rfl (B.catB (a:=q) (b:=[32]) rfl rfl (by (simp only[za,zb,zd];omega))) (E rfl (B.idx (z:=([],[])) (i:=k) rfl rfl un60 sz175 (fun _=>rfl) rfl (by omega)) (E rfl (B.catB (a:=(q++[32])) (b:=(l.getD k ([],[])).1) rfl rfl (by (simp only[za,zb,zd];omega))) (E rfl (B.catB (a:=((q++[32])++(l.getD k ([],[])).1)) (b:=[61]) rfl rfl (by (simp only[za,zb,zd];omega))) (E rfl (B.idx (z:=([],[])) (i:=k) rfl rfl un60 sz175 (fun _=>rfl) rfl (by omega)) (E rfl (B.catB (a:=(((q++[32])++(l.getD k ([],[])).1)++[61])) (b:=(l.getD k ([],[])).2) rfl rfl (by (simp only[za,zb,zd];omega))) (Dr rfl (by kernel_rfl) (E rfl (B.add rfl rfl (by unfold R64;omega)) (pk rfl (L2 (k+1) ((((q++[32])++(l.getD k ([],[])).1)++[61])++(l.getD k ([],[])).2) ?_ ?_ (sb rfl rfl rfl))))))))))
   · (refine⟨by omega,?_⟩;(rw[prtK,<-hI0.2,zl (by omega)];rfl))
   · omega
  refine E rfl (B.idx (z:=([],[])) (i:=k) rfl rfl un60 sz175 (fun _=>rfl) rfl (by omega)) (E rfl (B.catB (a:=q) (b:=(l.getD k ([],[])).1) rfl rfl (by omega)) (E rfl (B.catB (a:=(q++(l.getD k ([],[])).1)) (b:=[61]) rfl rfl (by (simp only[za,zb,zd];omega))) (E rfl (B.idx (z:=([],[])) (i:=k) rfl rfl un60 sz175 (fun _=>rfl) rfl (by omega)) (E rfl (B.catB (a:=((q++(l.getD k ([],[])).1)++[61])) (b:=(l.getD k ([],[])).2) rfl rfl (by (simp only[za,zb,zd];omega))) (Dr rfl (by kernel_rfl) (E rfl (B.add rfl rfl (by unfold R64;omega)) (pk rfl (L2 (k+1) (((q++(l.getD k ([],[])).1)++[61])++(l.getD k ([],[])).2) ?_ ?_ (sb rfl rfl rfl)))))))))
  · (refine⟨by omega,?_⟩;(rw[prtK,<-hI0.2,zk (by omega)];rfl))
  · omega
 exact Rt rfl (leaf (val0:=vS (bsO q)) (by kernel_rfl) (ls (by rw[hI0.2,show k=l.length by omega];rfl)))
end Go.Lens.Tm
end
section
namespace Go.Lens.Tm
open Go.Lens.Tb Go.Proofs
def cutP:List UInt8->Option Fld
 | []=>none
 | c::r=>bif decide (((c.toNat:Nat):Int)=61) then some ([],r) else (cutP r).map fun f=>(c::f.1,f.2)
theorem cutP_at:∀ (p:List UInt8) (a:Nat),a<=p.length->(∀ j,j<a->¬((p.getD j 0).toNat:Int)=61)->
  (a=p.length->cutP p=none)/\(a<p.length->((p.getD a 0).toNat:Int)=61->cutP p=some (p.take a,p.drop (a+1)))
 | [],a,ha,_=>⟨fun _=>rfl,fun h=>by simp at h⟩
 | c::r,0,_,_=>by
  refine⟨fun h=>by simp at h,fun _ h=>?_⟩
  have h:((c.toNat:Nat):Int)=61:=h
  simp[cutP,h]
 | c::r,a+1,ha,hn=>by
  have h0:¬((c.toNat:Nat):Int)=61:=hn 0 (by omega)
  have ih:=cutP_at r a (by simpa using ha) fun j hj=>by simpa using hn (j+1) (by omega)
  simp only[cutP,zk h0,cond_false]
  refine⟨fun h=>?_,fun h1 h2=>?_⟩
  ·rw[ih.1 (by simpa using h)];rfl
  rw[ih.2 (by simpa using h1) (by simpa using h2)];rfl
def Z3:List (List UInt8)->Option (List Fld)
 | []=>some []
 | p::r=>match cutP p with
  | none=>none
  | some f=>(Z3 r).map (f::·)
def kT (s:List UInt8):List Fld×Int:=if s=[] then ([],0) else match Z3 (jX s) with
 | none=>([],25)
 | some l=>if jt l=0 then (l,0) else ([],jt l)
theorem par_none {P:List (List UInt8)} {k:Nat} {out:List Fld} (hI:Z3 P=(Z3 (P.drop k)).map (out++·)) (hk:k<P.length) (h:cutP (P.getD k [])=none):Z3 P=none:=by
 rw[hI,drop_at P k [] hk,Z3,h];rfl
theorem par_some {P:List (List UInt8)} {k:Nat} {out:List Fld} {f:Fld} (hI:Z3 P=(Z3 (P.drop k)).map (out++·)) (hk:k<P.length) (h:cutP (P.getD k [])=some f):Z3 P=(Z3 (P.drop (k+1))).map ((out++[f])++·):=by
 rw[hI,drop_at P k [] hk,Z3,h]
 simp only[Option.map_map]
 congr 1
 funext r;simp
theorem par_end {P:List (List UInt8)} {k:Nat} {out:List Fld} (hI:Z3 P=(Z3 (P.drop k)).map (out++·)) (hk:P.length<=k):Z3 P=some out:=by
 rw[hI,zX hk];simp[Z3]
theorem cut_q {p:List UInt8} {a:Nat} {b:Bool} (h:(bif decide (((a:Nat):Int)<((p.length:Nat):Int)) then decide ((byteAt (bsO p) a)≠61) else false)=b) :
 (b=true->a<p.length/\¬((p.getD a 0).toNat:Int)=61)/\(b=false->a<p.length->((p.getD a 0).toNat:Int)=61):=by
 have e:byteAt (bsO p) a=((p.getD a 0).toNat:Int):=rfl
 rw[e] at h
 by_cases hk:a<p.length
 ·rw[zl (by omega),cond_true] at h
  subst h
  exact⟨fun h=>⟨hk,of_decide_eq_true h⟩,fun h _=>zi.1 (of_decide_eq_false h)⟩
 rw[zk (by omega),cond_false] at h
 subst h
 exact⟨fun h=>(by cases h),fun _ h=>absurd h hk⟩
theorem spl_len (s:List UInt8):∀ acc:List UInt8,(Zr acc s).length<=s.length+1:=by
 induction s with
 | nil=>intro acc;simp[Zr]
 | cons c r ih=>
  intro acc
  simp only[Zr]
  cases decide (((c.toNat:Nat):Int)=32) with
  | true=>have:=ih [];simp only[cond_true,zb];omega
  | false=>have:=ih (acc++[c]);simp only[cond_false,zb];omega
theorem spl_part:∀ (s acc:List UInt8) (p:List UInt8),p∈Zr acc s->p.length<=acc.length+s.length
 | [],acc,p,h=>by
  simp only[Zr,zg] at h
  subst h;simp
 | c::r,acc,p,h=>by
  simp only[Zr] at h
  cases hq:decide (((c.toNat:Nat):Int)=32) with
  | true=>
   rw[hq,cond_true] at h
   rcases zF.1 h with rfl|h
   ·omega
   have:=spl_part r [] p h;simp only[zb,zd] at this ⊢;omega
  | false=>
   rw[hq,cond_false] at h
   have:=spl_part r (acc++[c]) p h
   simp only[za,zb,zd] at this ⊢;omega
theorem Zi {s:List UInt8} (h:s=[]):kT s=([],0):=by unfold kT;rw[if_pos h]
theorem kj {s:List UInt8} (h:¬s=[]) (h2:Z3 (jX s)=none):kT s=([],25):=by unfold kT;rw[if_neg h,h2]
theorem Zg {s:List UInt8} {l:List Fld} (h:¬s=[]) (h2:Z3 (jX s)=some l) (h3:jt l≠0):kT s=([],jt l):=by
 unfold kT;rw[if_neg h,h2]
 show (if jt l=0 then _ else _)=_
 rw[if_neg h3]
theorem parF_ok {s:List UInt8} {l:List Fld} (h:¬s=[]) (h2:Z3 (jX s)=some l) (h3:¬jt l≠0):kT s=(l,0):=by
 unfold kT;rw[if_neg h,h2]
 show (if jt l=0 then _ else _)=_
 rw[if_pos (zi.1 h3)]
def rmGo (B M T:List Fld):List (List UInt8)->List Fld×List (List UInt8)
 | []=>([],[])
 | x::l=>
  let r:=rmGo B M T l
  let g:=if jl x M=jl x T then jl x M else if jl x M=jl x B then jl x T else jl x M
  (if g.isSome then (x,g.getD [])::r.1 else r.1,if jl x M=jl x T\/jl x M=jl x B\/jl x T=jl x B then r.2 else x::r.2)
def ZD (A:List Fld):List (List UInt8):=A.foldl (fun n f=>insS f.1 n) []
def refM (B M T:List Fld):List Fld×List (List UInt8):=
 if 0<(rmGo B M T (ZD (B++M++T))).2.length then ([],(rmGo B M T (ZD (B++M++T))).2) else ((rmGo B M T (ZD (B++M++T))).1,[])
theorem nmK_len (A:List Fld):∀ k,k<=A.length->(ZD (A.take k)).length<=k
 | 0,_=>by simp[ZD]
 | k+1,hk=>by
  have h1:=nmK_len A k (by omega)
  have e:ZD (A.take (k+1))=insS (A.getD k ([],[])).1 (ZD (A.take k)):=by
   rw[take_fld A k (by omega)];simp[ZD]
  rw[e]
  have:=insS_len (A.getD k ([],[])).1 (ZD (A.take k))
  omega
theorem nmK_step (A:List Fld) (k:Nat) (hk:k<A.length):ZD (A.take (k+1))=insS (A.getD k ([],[])).1 (ZD (A.take k)):=by
 rw[take_fld A k hk];simp[ZD]
theorem refM_con {B M T out:List Fld} {con:List (List UInt8)} (h:rmGo B M T (ZD (B++M++T))=(out,con)) (h2:0<((con.length:Nat):Int)):refM B M T=([],con):=by
 unfold refM;rw[h]
 exact if_pos (show 0<con.length by omega)
theorem refM_out {B M T out:List Fld} {con:List (List UInt8)} (h:rmGo B M T (ZD (B++M++T))=(out,con)) (h2:¬0<((con.length:Nat):Int)):refM B M T=(out,[]):=by
 unfold refM;rw[h]
 exact if_neg (show ¬0<con.length by omega)
end Go.Lens.Tm
end
section
namespace Go.Lens.Tm
open Go.Lens.Tb Go.Proofs
variable [Lz]
set_option maxHeartbeats 4000000
set_option maxRecDepth 100000
attribute [local irreducible] TK PK T RG EfR Body CG
theorem ag60:aggT tab 60=some false:=by kernel_rfl
theorem sz60:szT tab 60=some 1:=by kernel_rfl
theorem un212:tab.underlying 212=some (.slice 60):=by kernel_rfl
theorem w40 (s:List UInt8) (hl:s.length<=1000000):CKa 40 [vS (bsO s)] (.tup [vL eF (kT s).1,vI (kT s).2]):=by
 refine cG qf40 rfl (nB rfl) rfl ?_
 have hsl:(jX s).length<=s.length+1:=spl_len s []
 refine E rfl (B.j4 (enc:=eF) rfl) (E rfl (B.seqB (a:=s) (b:=[]) rfl rfl) (Cp rfl rfl (fun h1=>?_) (fun h1=>?_)))
 ·exact E rfl (B.j4 (enc:=eF) rfl) (Rt rfl (leaf (val0:=.tup [vL eF [],vI 0]) (by kernel_rfl) (tup2 (lsl (by rw[Zi h1])) (li (by rw[Zi h1])))))
 refine C rfl (w119 s (by omega)) rfl rfl rfl (E rfl (B.adopt 6 2 175 rfl rfl) (l3 (fun (k:Nat) (v:Nat) (out:List Fld)=>[(4,vL eN (jX s)),(5,.aref 6 v),(6,vI k)]) (fun _ v out=>[(6,.arr v 2 175 (List.map eF out))]) (fun k _ out=>k<=List.length (jX s)/\out.length=k/\Z3 (jX s)=Option.map (fun r=>out++r) (Z3 (List.drop k (jX s)))) (fun k _ _=>List.length (jX s)-k) 0 0 [] rfl ?_ (sb rfl rfl rfl) ?_))
 · exact⟨zq _,rfl,by simp⟩
 intro k v out hI0
 refine E rfl (B.je rfl ji) (Cp rfl rfl (fun h2=>?_) (fun h2=>?_))
 ·have hpl:=spl_part s [] _ (getD_mem (l:=jX s) (k:=k) (z:=[]) (by omega))
  simp only[zd,Nat.zero_add] at hpl
  refine l1 (fun (a:Nat)=>[(4,vL eN (jX s)),(5,.aref 6 v),(6,vI k),(7,vI a)]) (fun _=>[(6,.arr v 2 175 (List.map eF out))]) (fun a=>a<=List.length (List.getD (jX s) k [])/\∀ j,j<a->¬(((List.getD (List.getD (jX s) k []) j 0).toNat:Nat):Int)=61) (fun a=>List.length (List.getD (jX s) k [])-a) 0 rfl ?_ (sb rfl rfl rfl) ?_
  · exact⟨zq _,fun j hj=>by omega⟩
  intro a hI1
  refine E rfl (B.idx (z:=[]) (i:=k) rfl rfl ji sz9 (fun _=>rfl) rfl (by omega)) (E rfl (B.lenB (a:=(List.getD (jX s) k [])) rfl un9) (Eg rfl rfl (fun hc=>B.move rfl) rfl (Eg rfl rfl (fun hc=>B.move rfl) rfl (Eg rfl rfl (fun hc=>B.idx (z:=[]) (i:=k) (qy rfl hc) (qy rfl hc) ji sz9 (fun _=>rfl) rfl (by omega)) rfl (Eg rfl rfl (fun hc=>B.loadP (qy rfl hc) ag9 sz9) rfl (Eg rfl rfl (fun hc=>B.move rfl) rfl (Eg rfl rfl (fun hc=>B.sidx (i:=a) (qy rfl hc) (qy rfl hc) un9 rfl (show a<List.length (List.getD (jX s) k []) from (by (have hc2:=hc;simp only[beq_iff_eq,zf,zH] at hc2;omega)))) rfl (Eg rfl rfl (fun hc=>B.neq (qy rfl hc) rfl) rfl (E rfl (B.pick rfl rfl rfl (gdB rfl) rfl (qL _)) (Cb rfl rfl (fun h3=>?_) (fun h3=>?_)))))))))))
  ·refine E rfl (B.add rfl rfl (by unfold R64;omega)) (pk rfl (L1 (a+1) ?_ ?_ (sb rfl rfl rfl)))
   · (obtain⟨hq1,hq2⟩:=(cut_q h3).1 rfl;refine⟨by omega,fun j hj=>?_⟩;rcases zy.1 hj with h|h;exact hI1.2 j h;subst h;exact hq2)
   · (have hq1:=((cut_q h3).1 rfl).1;omega)
  refine E rfl (B.idx (z:=[]) (i:=k) rfl rfl ji sz9 (fun _=>rfl) rfl (by omega)) (E rfl (B.lenB (a:=(List.getD (jX s) k [])) rfl un9) (Cp rfl rfl (fun h4=>?_) (fun h4=>?_)))
  ·exact E rfl (B.j4 (enc:=eF) rfl) (Rt rfl (leaf (val0:=.tup [vL eF [],vI 25]) (by kernel_rfl) (tup2 (lsl (by rw[kj h1 (par_none hI0.2.2 (by omega) ((cutP_at _ a hI1.1 hI1.2).1 (by omega)))])) (li (by rw[kj h1 (par_none hI0.2.2 (by omega) ((cutP_at _ a hI1.1 hI1.2).1 (by omega)))])))))
  refine E rfl (B.idx (z:=[]) (i:=k) rfl rfl ji sz9 (fun _=>rfl) rfl (by omega)) (E rfl (B.slHB (a:=(List.getD (jX s) k [])) (j:=a) rfl rfl un9 rfl (by omega)) (E rfl (B.idx (z:=[]) (i:=k) rfl rfl ji sz9 (fun _=>rfl) rfl (by omega)) (E rfl (B.add rfl rfl (by unfold R64;omega)) (E rfl (B.slLB (a:=(List.getD (jX s) k [])) (i:=(a+1)) rfl rfl un9 (by omega) (by omega)) (E rfl (B.jj (val:=.pv (.slice (List.map eF [((List.take a (List.getD (jX s) k [])),(List.drop (a+1) (List.getD (jX s) k [])))]))) rfl (fun l=>Frz.arr l _ _ _ _ _) rfl) (E rfl (B.append rfl rfl rfl un60 in175 rfl (fun _=>rfl) by175 (by (simp only[za,zb,zd,zn,zo];omega))) (Dr rfl (by kernel_rfl) (E rfl (B.add rfl rfl (by unfold R64;omega)) (pk rfl (L3 (k+1) (v+1) (out++[((List.take a (List.getD (jX s) k [])),(List.drop (a+1) (List.getD (jX s) k [])))]) ?_ ?_ (sb rfl rfl rfl)))))))))))
  · (refine⟨by omega,by simp only[za,zb,zd];omega,?_⟩;exact par_some hI0.2.2 (by omega) ((cutP_at _ a hI1.1 hI1.2).2 (by omega) ((cut_q h3).2 rfl (by omega))))
  · omega
 have hpe:=par_end hI0.2.2 (by omega)
 refine Fz 14 5 rfl rfl rfl (C rfl (w38 out (by omega)) rfl rfl rfl (Cp rfl rfl (fun h5=>?_) (fun h5=>?_)))
 ·exact E rfl (B.j4 (enc:=eF) rfl) (Rt rfl (leaf (val0:=.tup [vL eF [],vI (jt out)]) (by kernel_rfl) (tup2 (lsl (by rw[Zg h1 hpe (by assumption)])) (li (by rw[Zg h1 hpe (by assumption)])))))
 exact Rt rfl (leaf (val0:=.tup [vL eF out,vI 0]) (by kernel_rfl) (tup2 (lsl (by rw[parF_ok h1 hpe (by assumption)])) (li (by rw[parF_ok h1 hpe (by assumption)]))))
theorem w122 (b m t:List Fld) (hb:b.length<=1000) (hm:m.length<=1000) (ht:t.length<=1000):CKa 122 [vL eF b,vL eF m,vL eF t] (.tup [vL eF (refM b m t).1,vL eN (refM b m t).2]):=by
 refine cG qf122 rfl (nB rfl) rfl ?_
 have hal:List.length ((b++m)++t)=b.length+m.length+t.length:=by simp only[za]
 refine E rfl (B.j4 (enc:=eF) rfl) (E rfl (B.j4 (enc:=eN) rfl) (E rfl (B.j4 (enc:=eN) rfl) (E rfl (B.run rfl) (E rfl (B.append (enc:=eF) (l:=[]) (r:=b) rfl rfl rfl un60 in175 rfl (fun _=>rfl) by175 (by (simp only[za,zb,zd,zn,zo];omega))) (E rfl (B.append rfl rfl rfl un60 in175 rfl (fun _=>rfl) by175 (by (simp only[za,zb,zd,zn,zo];omega))) (E rfl (B.append rfl rfl rfl un60 in175 rfl (fun _=>rfl) by175 (by (simp only[za,zb,zd,zn,zo];omega))) (Fz 3 9 rfl rfl rfl (l2 (fun (k:Nat) (ns:List (List UInt8))=>[(0,vL eF b),(1,vL eF m),(2,vL eF t),(8,vL eN ns),(9,vL eF ((b++m)++t)),(10,vI k)]) (fun _ _=>[]) (fun k ns=>k<=List.length ((b++m)++t)/\ns=ZD (List.take k ((b++m)++t))) (fun k _=>List.length ((b++m)++t)-k) 0 [] rfl ?_ (sb rfl rfl rfl) ?_))))))))
 · exact⟨zq _,rfl⟩
 intro k ns hI0
 refine E rfl (B.je rfl un60) (Cp rfl rfl (fun h1=>?_) (fun h1=>?_))
 ·have hnl:ns.length<=k:=by rw[hI0.2];exact nmK_len _ k (by omega)
  refine E rfl (B.idx (z:=([],[])) (i:=k) rfl rfl un60 sz175 (fun _=>rfl) rfl (by omega)) (C rfl (w178 ns (List.getD ((b++m)++t) k ([],[])).1 (by omega)) rfl rfl rfl (E rfl (B.add rfl rfl (by unfold R64;omega)) (pk rfl (L2 (k+1) (insS (List.getD ((b++m)++t) k ([],[])).1 ns) ?_ ?_ (sb rfl rfl rfl)))))
  · (refine⟨by omega,?_⟩;rw[nmK_step _ k (by omega),<-hI0.2])
  · omega
 have hns:ns=ZD ((b++m)++t):=by rw[hI0.2,zx (by omega)]
 have hnl:ns.length<=k:=by rw[hI0.2];exact nmK_len _ k (by omega)
 refine E rfl (B.adopt 12 2 175 rfl rfl) (E rfl (B.adopt 13 1 9 rfl rfl) (l5 (fun (j:Nat) (vo:Nat) (out:List Fld) (vc:Nat) (con:List (List UInt8))=>[(0,vL eF b),(1,vL eF m),(2,vL eF t),(8,vL eN ns),(11,.aref 12 vo),(12,.aref 13 vc),(13,vI j)]) (fun _ vo out vc con=>[(12,.arr vo 2 175 (List.map eF out)),(13,.arr vc 1 9 (List.map eN con))]) (fun j _ out _ con=>j<=ns.length/\out.length<=j/\con.length<=j/\rmGo b m t ns=(out++(rmGo b m t (List.drop j ns)).1,con++(rmGo b m t (List.drop j ns)).2)) (fun j _ _ _ _=>ns.length-j) 0 0 [] 0 [] rfl ?_ (sb rfl rfl rfl) ?_))
 · exact⟨zq _,zz _,zz _,rfl⟩
 intro j vo out vc con hI1
 refine E rfl (B.je rfl ji) (Cp rfl rfl (fun h2=>?_) (fun h2=>?_))
 ·refine E rfl (B.idx (z:=[]) (i:=j) rfl rfl ji sz9 (fun _=>rfl) rfl (by omega)) (C rfl (w53 b (ns.getD j []) (by omega)) rfl rfl rfl (E rfl (B.idx (z:=[]) (i:=j) rfl rfl ji sz9 (fun _=>rfl) rfl (by omega)) (C rfl (w53 m (ns.getD j []) (by omega)) rfl rfl rfl (E rfl (B.idx (z:=[]) (i:=j) rfl rfl ji sz9 (fun _=>rfl) rfl (by omega)) (C rfl (w53 t (ns.getD j []) (by omega)) rfl rfl rfl (E rfl (B.seqB (a:=(Option.getD (jl (ns.getD j []) m) [])) (b:=(Option.getD (jl (ns.getD j []) t) [])) rfl rfl) (Eg rfl rfl (fun hc=>B.move rfl) rfl (Eg rfl rfl (fun hc=>B.move rfl) rfl (Eg rfl rfl (fun hc=>B.bqB (qy rfl hc) (qy rfl hc) un4) rfl (E rfl (B.pick rfl rfl rfl (gdB rfl) rfl (qL _)) (Cb rfl rfl (fun h3=>?_) (fun h3=>?_))))))))))))
  ·refine Cb rfl rfl (fun h4=>?_) (fun h4=>?_)
   ·refine E rfl (B.idx (z:=[]) (i:=j) rfl rfl ji sz9 (fun _=>rfl) rfl (by omega)) (E rfl (B.jj (val:=.pv (.slice (List.map eF [((ns.getD j []),(Option.getD (jl (ns.getD j []) m) []))]))) rfl (fun l=>Frz.arr l _ _ _ _ _) rfl) (E rfl (B.append rfl rfl rfl un60 in175 rfl (fun _=>rfl) by175 (by (simp only[za,zb,zd,zn,zo];omega))) (E rfl (B.add rfl rfl (by unfold R64;omega)) (pk rfl (L5 (j+1) (vo+1) (out++[((ns.getD j []),(Option.getD (jl (ns.getD j []) m) []))]) vc con ?_ ?_ (sb rfl rfl rfl))))))
    · (refine⟨by omega,by (simp only[za,zb,zd];omega),by omega,?_⟩;rw[hI1.2.2.2,drop_at ns j [] (by omega),rmGo];clear hI1 hI0 hns hal;simp_all [kS,js])
    · omega
   refine E rfl (B.add rfl rfl (by unfold R64;omega)) (pk rfl (L5 (j+1) vo out vc con ?_ ?_ (sb rfl rfl rfl)))
   · (refine⟨by omega,by omega,by omega,?_⟩;rw[hI1.2.2.2,drop_at ns j [] (by omega),rmGo];clear hI1 hI0 hns hal;simp_all [kS,js])
   · omega
  refine E rfl (B.seqB (a:=(Option.getD (jl (ns.getD j []) m) [])) (b:=(Option.getD (jl (ns.getD j []) b) [])) rfl rfl) (Eg rfl rfl (fun hc=>B.move rfl) rfl (Eg rfl rfl (fun hc=>B.move rfl) rfl (Eg rfl rfl (fun hc=>B.bqB (qy rfl hc) (qy rfl hc) un4) rfl (E rfl (B.pick rfl rfl rfl (gdB rfl) rfl (qL _)) (Cb rfl rfl (fun h5=>?_) (fun h5=>?_))))))
  ·refine Cb rfl rfl (fun h6=>?_) (fun h6=>?_)
   ·refine E rfl (B.idx (z:=[]) (i:=j) rfl rfl ji sz9 (fun _=>rfl) rfl (by omega)) (E rfl (B.jj (val:=.pv (.slice (List.map eF [((ns.getD j []),(Option.getD (jl (ns.getD j []) t) []))]))) rfl (fun l=>Frz.arr l _ _ _ _ _) rfl) (E rfl (B.append rfl rfl rfl un60 in175 rfl (fun _=>rfl) by175 (by (simp only[za,zb,zd,zn,zo];omega))) (E rfl (B.add rfl rfl (by unfold R64;omega)) (pk rfl (L5 (j+1) (vo+1) (out++[((ns.getD j []),(Option.getD (jl (ns.getD j []) t) []))]) vc con ?_ ?_ (sb rfl rfl rfl))))))
    · (refine⟨by omega,by (simp only[za,zb,zd];omega),by omega,?_⟩;rw[hI1.2.2.2,drop_at ns j [] (by omega),rmGo];clear hI1 hI0 hns hal;simp_all [kS,js])
    · omega
   refine E rfl (B.add rfl rfl (by unfold R64;omega)) (pk rfl (L5 (j+1) vo out vc con ?_ ?_ (sb rfl rfl rfl)))
   · (refine⟨by omega,by omega,by omega,?_⟩;rw[hI1.2.2.2,drop_at ns j [] (by omega),rmGo];clear hI1 hI0 hns hal;simp_all [kS,js])
   · omega
  refine E rfl (B.seqB (a:=(Option.getD (jl (ns.getD j []) t) [])) (b:=(Option.getD (jl (ns.getD j []) b) [])) rfl rfl) (Eg rfl rfl (fun hc=>B.move rfl) rfl (Eg rfl rfl (fun hc=>B.move rfl) rfl (Eg rfl rfl (fun hc=>B.bqB (qy rfl hc) (qy rfl hc) un4) rfl (E rfl (B.pick rfl rfl rfl (gdB rfl) rfl (qL _)) (Cb rfl rfl (fun h7=>?_) (fun h7=>?_))))))
  ·refine Cb rfl rfl (fun h8=>?_) (fun h8=>?_)
   ·refine E rfl (B.idx (z:=[]) (i:=j) rfl rfl ji sz9 (fun _=>rfl) rfl (by omega)) (E rfl (B.jj (val:=.pv (.slice (List.map eF [((ns.getD j []),(Option.getD (jl (ns.getD j []) m) []))]))) rfl (fun l=>Frz.arr l _ _ _ _ _) rfl) (E rfl (B.append rfl rfl rfl un60 in175 rfl (fun _=>rfl) by175 (by (simp only[za,zb,zd,zn,zo];omega))) (E rfl (B.add rfl rfl (by unfold R64;omega)) (pk rfl (L5 (j+1) (vo+1) (out++[((ns.getD j []),(Option.getD (jl (ns.getD j []) m) []))]) vc con ?_ ?_ (sb rfl rfl rfl))))))
    · (refine⟨by omega,by (simp only[za,zb,zd];omega),by omega,?_⟩;rw[hI1.2.2.2,drop_at ns j [] (by omega),rmGo];clear hI1 hI0 hns hal;simp_all [kS,js])
    · omega
   refine E rfl (B.add rfl rfl (by unfold R64;omega)) (pk rfl (L5 (j+1) vo out vc con ?_ ?_ (sb rfl rfl rfl)))
   · (refine⟨by omega,by omega,by omega,?_⟩;rw[hI1.2.2.2,drop_at ns j [] (by omega),rmGo];clear hI1 hI0 hns hal;simp_all [kS,js])
   · omega
  refine E rfl (B.idx (z:=[]) (i:=j) rfl rfl ji sz9 (fun _=>rfl) rfl (by omega)) (E rfl (B.jj (val:=.pv (.slice (List.map eN [(ns.getD j [])]))) rfl (fun l=>Frz.arr l _ _ _ _ _) rfl) (E rfl (B.append rfl rfl rfl ji in9 rfl (fun _=>rfl) by9 (by (simp only[za,zb,zd,zn,zo];omega))) (Cb rfl rfl (fun h9=>?_) (fun h9=>?_))))
  ·refine E rfl (B.idx (z:=[]) (i:=j) rfl rfl ji sz9 (fun _=>rfl) rfl (by omega)) (E rfl (B.jj (val:=.pv (.slice (List.map eF [((ns.getD j []),(Option.getD (jl (ns.getD j []) m) []))]))) rfl (fun l=>Frz.arr l _ _ _ _ _) rfl) (E rfl (B.append rfl rfl rfl un60 in175 rfl (fun _=>rfl) by175 (by (simp only[za,zb,zd,zn,zo];omega))) (E rfl (B.add rfl rfl (by unfold R64;omega)) (pk rfl (L5 (j+1) (vo+1) (out++[((ns.getD j []),(Option.getD (jl (ns.getD j []) m) []))]) (vc+1) (con++[(ns.getD j [])]) ?_ ?_ (sb rfl rfl rfl))))))
   · (refine⟨by omega,by (simp only[za,zb,zd];omega),by (simp only[za,zb,zd];omega),?_⟩;rw[hI1.2.2.2,drop_at ns j [] (by omega),rmGo];clear hI1 hI0 hns hal;simp_all [kS,js])
   · omega
  refine E rfl (B.add rfl rfl (by unfold R64;omega)) (pk rfl (L5 (j+1) vo out (vc+1) (con++[(ns.getD j [])]) ?_ ?_ (sb rfl rfl rfl)))
  · (refine⟨by omega,by omega,by (simp only[za,zb,zd];omega),?_⟩;rw[hI1.2.2.2,drop_at ns j [] (by omega),rmGo];clear hI1 hI0 hns hal;simp_all [kS,js])
  · omega
 have hrm:rmGo b m t (ZD ((b++m)++t))=(out,con):=by rw[<-hns,hI1.2.2.2,zX (by omega)];simp[rmGo]
 refine Fz 23 12 rfl rfl rfl (E rfl (B.je rfl ji) (Cp rfl rfl (fun h10=>?_) (fun h10=>?_)))
 ·exact E rfl (B.j4 (enc:=eF) rfl) (Rt rfl (leaf (val0:=.tup [vL eF [],vL eN con]) (by kernel_rfl) (tup2 (lsl (by rw[refM_con hrm (by assumption)])) (lsl (by rw[refM_con hrm (by assumption)])))))
 exact Fz 25 11 rfl rfl rfl (E rfl (B.j4 (enc:=eN) rfl) (Rt rfl (leaf (val0:=.tup [vL eF out,vL eN []]) (by kernel_rfl) (tup2 (lsl (by rw[refM_out hrm (by assumption)])) (lsl (by rw[refM_out hrm (by assumption)]))))))
end Go.Lens.Tm
end
section
namespace Go.Lens.Tm
open Go.Lens.Tb Go.Proofs
variable [Lz]
theorem ltS_iff:∀ {x y:List UInt8},ltS x y=true↔x<y
 | x,[]=>by cases x<;>simp[ltS,Op.bytesLess]
 | [],b::m=>by simp[ltS,Op.bytesLess]
 | a::l,b::m=>by
  have ih:=ltS_iff (x:=l) (y:=m)
  unfold ltS at ih ⊢
  rw[List.cons_lt_cons_iff]
  simp[Op.bytesLess,ih]
theorem leS_iff {x y:List UInt8}:leS x y=true↔x<=y:=by
 have h:=ltS_iff (x:=x) (y:=y)
 unfold ltS at h
 unfold leS
 rw[Bool.or_eq_true,h,beq_iff_eq]
 constructor
 ·rintro (h|rfl)
  ·exact List.le_of_lt h
  exact List.le_refl _
 intro h
 by_cases e:x=y
 ·exact .inr e
 left
 by_cases hl:x<y
 ·exact hl
 exact absurd (List.le_antisymm h (List.not_lt.1 hl)) e
theorem insS_insB {x:List UInt8}:∀ {l:List (List UInt8)},l.Pairwise (· < ·)->insS x l=insB x l
 | [],_=>rfl
 | y::l,h=>by
  have ih:=insS_insB (x:=x) (List.pairwise_cons.1 h).2
  have hy:=(List.pairwise_cons.1 h).1
  unfold insS at ih ⊢
  simp only[insB,List.any_cons]
  cases h1:beqB x y with
  | true=>
   rw[beqB_iff] at h1
   subst h1
   simp
  | false=>
   have n1:¬x=y:=fun e=>by rw[beqB_iff.2 e] at h1;cases h1
   rw[zk (p:=y=x) (fun e=>n1 e.symm),Bool.false_or]
   cases h2:blt x y with
   | true=>
    rw[blt_iff] at h2
    have hno:List.any l (fun z=>decide (z=x))=false:=by
     rw[List.any_eq_false]
     intro z hz e
     have e:=of_decide_eq_true e
     subst e
     exact List.lt_irrefl _ (List.lt_trans h2 (hy z hz))
    have hlt:ltS y x=false:=by
     rw[Bool.eq_false_iff]
     intro e
     exact List.lt_irrefl _ (List.lt_trans h2 (ltS_iff.1 e))
    rw[hno]
    simp only[cond_false,cond_true,insGo,hlt]
   | false=>
    have n2:¬x<y:=fun e=>by rw[blt_iff.2 e] at h2;cases h2
    have hlt:ltS y x=true:=ltS_iff.2 (lt_of_not n1 n2)
    simp only[cond_false,insGo,hlt,cond_true]
    cases hany:List.any l (fun z=>decide (z=x)) with
    | true=>rw[hany] at ih;simp only[cond_true] at ih ⊢;rw[<-ih]
    | false=>rw[hany] at ih;simp only[cond_false] at ih ⊢;rw[<-ih]
theorem sorted_one {L M:List (List UInt8)} (hL:L.Pairwise (· < ·)) (hM:M.Pairwise (· < ·)) (h:∀ x,x∈L↔x∈M):L=M:=by
 have nd:∀ {L:List (List UInt8)},L.Pairwise (· < ·)->L.Nodup:=fun hs=>hs.imp fun h e=>by subst e;exact List.lt_irrefl _ h
 refine List.Perm.eq_of_pairwise (le:=fun a b=>decide (a<=b)=true) (fun a b _ _ h1 h2=>?_) ?_ ?_ ?_
 ·simp only[zf] at h1 h2
  exact List.le_antisymm h1 h2
 ·exact hL.imp fun h=>by simp only[zf];exact List.le_of_lt h
 ·exact hM.imp fun h=>by simp only[zf];exact List.le_of_lt h
 exact (List.perm_ext_iff_of_nodup (nd hL) (nd hM)).2 h
theorem foldS:∀ (A:List Fld) (acc:List (List UInt8)),acc.Pairwise (· < ·)->(A.foldl (fun n f=>insS f.1 n) acc).Pairwise (· < ·)/\∀ x,x∈A.foldl (fun n f=>insS f.1 n) acc↔x∈acc\/x∈A.map (·.1)
 | [],acc,h=>⟨h,fun x=>by simp⟩
 | f::A,acc,h=>by
  have h1:(insS f.1 acc).Pairwise (· < ·):=by rw[insS_insB h];exact ins_sorted h
  obtain⟨k1,k2⟩:=foldS A (insS f.1 acc) h1
  refine⟨k1,fun x=>?_⟩
  show x∈A.foldl _ (insS f.1 acc)↔_
  rw[k2 x,insS_insB h,mem_ins,zw,zF]
  constructor
  ·rintro ((h|h)|h)<;>simp[h]
  rintro (h|h|h)<;>simp[h]
theorem refNm_srt (A:List Fld):ZD A=srt (A.map (·.1)):=by
 obtain⟨k1,k2⟩:=foldS A [] List.Pairwise.nil
 refine sorted_one k1 (srt_sorted _) fun x=>?_
 rw[mem_srt]
 exact (k2 x).trans (by simp)
theorem rm_con (B M T:List Fld):∀ L,(rmGo B M T L).2=(mgo B M T L).2
 | []=>rfl
 | x::L=>by
  have ih:=rm_con B M T L
  simp only[rmGo,mgo]
  by_cases h1:jl x M=jl x T
  ·rw[if_pos (.inl h1),if_pos (.inl h1)];split<;>exact ih
  by_cases h2:jl x T=jl x B
  ·rw[if_pos (.inr (.inr h2)),if_pos (.inr h2)];split<;>exact ih
  by_cases h3:jl x M=jl x B
  ·rw[if_pos (.inr (.inl h3)),if_neg (by rintro (h|h);exact h1 h;exact h2 h),if_pos h3];split<;>exact ih
  rw[if_neg (by rintro (h|h|h);exact h1 h;exact h3 h;exact h2 h),if_neg (by rintro (h|h);exact h1 h;exact h2 h),if_neg h3,ih]
theorem rm_out (B M T:List Fld):∀ L,(mgo B M T L).2=[]->(rmGo B M T L).1=(mgo B M T L).1
 | [],_=>rfl
 | x::L,h=>by
  simp only[mgo] at h
  simp only[rmGo,mgo]
  by_cases h1:jl x M=jl x T
  ·rw[if_pos (Or.inl h1)] at h ⊢
   rw[if_pos h1]
   have hq:(mgo B M T L).2=[]:=by split at h<;>exact h
   rw[rm_out B M T L hq]
   split<;>rfl
  by_cases h2:jl x T=jl x B
  ·rw[if_pos (Or.inr h2)] at h ⊢
   have hq:(mgo B M T L).2=[]:=by split at h<;>exact h
   rw[if_neg h1,rm_out B M T L hq]
   by_cases h3:jl x M=jl x B
   ·exact absurd (h3.trans h2.symm) h1
   rw[if_neg h3];split<;>rfl
  have hn:¬(jl x M=jl x T\/jl x T=jl x B):=by rintro (h|h);exact h1 h;exact h2 h
  rw[if_neg hn] at h ⊢
  by_cases h3:jl x M=jl x B
  ·rw[if_pos h3] at h ⊢
   have hq:(mgo B M T L).2=[]:=by split at h<;>exact h
   rw[if_neg h1,if_pos h3,rm_out B M T L hq];split<;>rfl
  rw[if_neg h3] at h;cases h
theorem fGo_all {l:List Fld}:∀ (n i:Nat),i+n=l.length->fGo l n i=0->∀ j,i<=j->j<l.length->fOne l j=0
 | 0,i,hn,_,j,h1,h2=>by omega
 | n+1,i,hn,h,j,h1,h2=>by
  simp only[fGo] at h
  split at h
  ·rename_i h0
   by_cases hij:j=i
   ·subst hij;exact h0
   exact fGo_all n (i+1) (by omega) h j (by omega) h2
  rename_i h0;exact absurd h h0
theorem chk_parts {l:List Fld} (h:jt l=0):l.length<=24/\∀ j,j<l.length->chkF (l.getD j ([],[]))=0/\ordB l j=false:=by
 unfold jt at h
 by_cases hl:24<l.length
 ·rw[zl hl] at h;cases h
 rw[zk hl] at h
 refine⟨by omega,fun j hj=>?_⟩
 have:=fGo_all l.length 0 (by omega) h j (by omega) hj
 unfold fOne at this
 split at this
 ·rename_i h0
  refine⟨h0,?_⟩
  cases ho:ordB l j with
  | false=>rfl
  | true=>rw[ho] at this;cases this
 rename_i h0;exact absurd this h0
theorem chkF_len {f:Fld} (h:chkF f=0):f.1.length<=24/\f.2.length<=60:=by
 unfold chkF at h
 cases hn:qY (bsO f.1) with
 | false=>rw[hn] at h;cases h
 | true=>
  rw[hn] at h
  by_cases hc:60<f.2.length
  ·rw[zl hc] at h;cases h
  refine⟨?_,by omega⟩
  by_cases hz:24<f.1.length
  ·rw[ZL (s:=bsO f.1) (.inr hz)] at hn;cases hn
  omega
theorem mem_getD {α:Type} {l:List α} {a:α} (z:α) (h:a∈l):∃ j,j<l.length/\l.getD j z=a:=by
 obtain⟨j,hj,rfl⟩:=List.getElem_of_mem h
 exact⟨j,hj,by rw[ze,zm hj];rfl⟩
theorem chk_small {l:List Fld} (h:jt l=0):Small l:=by
 obtain⟨h1,h2⟩:=chk_parts h
 refine⟨by omega,fun f hf=>?_⟩
 obtain⟨j,hj,rfl⟩:=mem_getD ([],[]) hf
 have:=(chkF_len (h2 j hj).1).1
 omega
theorem asc_of:∀ (l:List Fld),(∀ j,0<j->j<l.length->leS (l.getD j ([],[])).1 (l.getD (j-1) ([],[])).1=false)->ascB l=true
 | [],_=>rfl
 | [_],_=>rfl
 | a::b::l,h=>by
  have h0:leS b.1 a.1=false:=h 1 (by omega) (by simp)
  have hlt:blt a.1 b.1=true:=by
   rw[blt_iff]
   rw[Bool.eq_false_iff,Ne,leS_iff] at h0
   exact List.not_le.1 h0
  simp only[ascB,hlt,Bool.true_and]
  refine asc_of (b::l) fun j h1 h2=>?_
  have:=h (j+1) (by omega) (by simpa using h2)
  rw[show j+1-1=(j-1)+1 by omega] at this
  simpa using this
theorem chk_asc {l:List Fld} (h:jt l=0):ascB l=true:=by
 refine asc_of l fun j h1 h2=>?_
 have:=((chk_parts h).2 j h2).2
 unfold ordB at this
 rw[zl h1,Bool.true_and] at this
 exact this
end Go.Lens.Tm
end
section
namespace Go.Lens
variable [Lz]
section
variable {P:Program} {Y:Tab} [qU P Y] {nb:Nat} {s:St} {dst:Option Tmp} {ty u:TypeId} {pos:String} {af:Array Edge} {gd:Option (Nat×Bool)} {t:TypeId} {x y z:Operand}
theorem B.idxE {α:Type} {enc:α->List PV} {l:List α} {h v sz n:Nat} {k:IntKind} {m:Int} {e T:TypeId} (hx:ev1 s x=.aref h v) (hm:qx s.ms h=some (.arr v sz T (l.map enc))) (hy:ev1 s y=lit (.int k m)) (und:Y.underlying t=some (.slice e)) (hs:szT Y e=some sz)
  (hn:m=(n:Int)) (hlt:n<l.length):Body P Y nb s ⟨dst,.indexAddr t x y,ty,pos,af,gd⟩ (.eref h v n 0) [] [h]:=by
 refine .inr (Zl.of fun σ G a w hv hl I=>?_)
 have hX:=hv x (by simp[Op.operands])
 have hY:=hv y (by simp[Op.operands])
 rw[hx] at hX;rw[hy] at hY
 have hlk:qx σ.ms h=some (.arr v sz T (l.map enc)):=by rw[hl h (.inl (by simp))];exact hm
 have hq:j8 Y t (qx σ.ms) (.aref h v) (lit (.int k m))=some (true,.eref h v n 0):=by
  show jI Y t (qx σ.ms) (.aref h v) (lit (.int k m))=_
  unfold jI lit
  subst hn
  have:decide ((0:Int)<=(n:Int)/\(n:Int)<((l.map enc).length:Int))=true:=zl ⟨by omega,by rw[zJ];omega⟩
  simp only[und,hs,hlk,and_self,qq,this,zU]
 obtain⟨r,h1,h2⟩:=indexAddrW_sound (P:=P) I.ctxS.sees hq hX hY
 refine⟨r,w,G,.inl ?_,qM I.ctxS h2 (fun k hk=>?_)⟩
 ·simp only[execOp,qu,h1,qt,qw]
 simp only[DV.refs,zg] at hk;subst hk;exact⟨_,hlk⟩
theorem B.setE {α:Type} {enc:α->List PV} {l:List α} {z0:α} {p:PV} {h v n:Nat} {T:TypeId} (hx:ev1 s x=.eref h v n 0) (hm:qx s.ms h=some (.arr v 1 T (l.map enc))) (hy:ev1 s y=.pv p) (hz:enc z0=[p]) (hc:cellsPV p=[p])
  (hs:szT Y t=some 1) (hlt:n<l.length) (hsz:∀ a,(enc a).length=1):Body P Y nb s ⟨dst,.store t x y,ty,pos,af,gd⟩ .dead [(h,.arr v 1 T ((l.set n z0).map enc))] [h]:=by
 refine .inr (Zl.of fun σ G a w hv hl I=>?_)
 have hX:=hv x (by simp[Op.operands])
 have hY:=hv y (by simp[Op.operands])
 rw[hx] at hX;rw[hy] at hY
 have hlk:qx σ.ms h=some (.arr v 1 T (l.map enc)):=by rw[hl h (.inl (by simp))];exact hm
 have C:Ctx G w (fun z=>match z with| .tmp 0=>a.eval x| .tmp 1=>a.eval y|_=>undef) (fun z=>match z with| .tmp 0=>.eref h v n 0| .tmp 1=>.pv p|_=>.dead) (qx σ.ms) (qx σ.ms):=by
  refine I.mem.ctx2 (fun z=>?_) (fun z k hk=>?_)
  ·split
   ·exact hX
   ·exact hY
   simp only[qz]
  split at hk
  ·simp only[DV.refs,zg] at hk;subst hk;exact⟨_,hlk⟩
  ·simp[DV.refs] at hk
  simp[DV.refs] at hk
 have hcv:storeV Y t (.eref h v n 0) (.pv p) (qx σ.ms)=some ⟨true,.dead,[(h,.arr v 1 T ((l.set n z0).map enc))]⟩:=by
  unfold storeV
  have hp:pvOf (qx σ.ms) (.pv p)=some p:=rfl
  have hg:(l.map enc).getD n []=enc (l[n]'hlt):=by rw[ze,qf,zm hlt];rfl
  have hd:(enc (l[n]'hlt)).drop 1=[]:=zX (by rw[hsz];omega)
  have hdec:decide (n<(l.map enc).length/\0+1<=1)=true:=zl ⟨by rw[zJ];exact hlt,by omega⟩
  simp only[hs,hlk,hp,hc,zb,zd,and_self,qq,hg,List.take_zero,zW,Nat.zero_add,hd,zS,List.map_set,hz]
  have hdec2:decide (n<(l.map enc).length/\1<=1)=true:=hdec
  simp only[zJ] at hdec2
  simp[hlt]
 obtain⟨w',G',h1,h2⟩:=storeV_sound (P:=P) C (t:=t) (a:=.tmp 0) (x:=.tmp 1) hcv rfl
 refine⟨undef,w',G',.inr ⟨?_,rfl⟩,h2⟩
 have lift:∀ {q:Sem Unit} {w':World},q.run P w=.ok () w'->(do q;Pure.pure Next.skip:Sem Next).run P w=.ok .skip w':=by
  intro q w' h
  simp only[qu,h,qt,qw]
 exact lift (q:=Instr.storeAt _ _ _) h1
theorem B.lenB1 {c:UInt8} {at':TypeId} (hx:ev1 s x=lit (.string (bsO [c]))) (hu:Y.underlying at'=some .string):Body P Y nb s ⟨dst,.call ⟨.builtin .len,⟨[x]⟩,⟨[at']⟩⟩,ty,pos,af,gd⟩ (lit (.int .i64 1)) [] []:=B.lenB hx hu
end
end Go.Lens
end
section
namespace Go.Lens.Tm
open Go.Lens.Tb Go.Proofs
variable [Lz]
theorem u8_back (c:UInt8):(((c.toNat:Nat):Int)).toNat.toUInt8=c:=by simp
theorem w310 (hp:qH) (s:List UInt8) (c:UInt8):CKa 310 [vS (bsO s),.pv (.lit (.int .u8 ((c.toNat:Nat):Int)))] (vI (Lib.indexByte s c)):=by
 have h:extO ext 310 0 [vS (bsO s),.pv (.lit (.int .u8 ((c.toNat:Nat):Int)))] []=some (lit (.int .i64 (Lib.indexByte (bsO s).data.toList (((c.toNat:Nat):Int)).toNat.toUInt8)),[]):=rfl
 rw[u8_back] at h
 exact extO_ok (ext_ok hp) _ _ _ _ _ _ h
theorem w287 (hp:qH) (s:List UInt8) (c:UInt8):CKa 287 [vS (bsO s),.pv (.lit (.int .u8 ((c.toNat:Nat):Int)))] (vI ((List.count c s:Nat):Int)):=by
 have h:extO ext 287 0 [vS (bsO s),.pv (.lit (.int .u8 ((c.toNat:Nat):Int)))] []=some (lit (.int .i64 (Lib.countByte (bsO s).data.toList (((c.toNat:Nat):Int)).toNat.toUInt8)),[]):=rfl
 rw[u8_back] at h
 exact extO_ok (ext_ok hp) _ _ _ _ _ _ h
theorem ix_nat:∀ {s:List UInt8} {c:UInt8},0<=Lib.indexByte s c->∃ n:Nat,Lib.indexByte s c=(n:Int)/\n<s.length/\s.getD n 0=c/\∀ j,j<n->s.getD j 0≠c
 | [],c,h=>by simp[Lib.indexByte] at h
 | b::l,c,h=>by
  simp only[Lib.indexByte] at h ⊢
  by_cases hb:(b==c)=true
  ·rw[if_pos hb]
   exact⟨0,rfl,by simp,by simpa using hb,fun j hj=>by omega⟩
  rw[if_neg hb] at h ⊢
  by_cases h1:(Lib.indexByte l c== -1)=true
  ·rw[if_pos h1] at h;omega
  rw[if_neg h1] at h ⊢
  have hge:=Lib.indexByte_ge l c
  have hne:Lib.indexByte l c≠ -1:=by simpa using h1
  obtain⟨n,e,k1,k2,k3⟩:=ix_nat (s:=l) (c:=c) (by omega)
  refine⟨n+1,by rw[e];rfl,by simpa using k1,by simpa using k2,fun j hj=>?_⟩
  cases j with
  | zero=>simpa using hb
  | succ j=>simpa using k3 j (by omega)
theorem ix_neg:∀ {s:List UInt8} {c:UInt8},Lib.indexByte s c<0->c∉s
 | [],c,_=>by simp
 | b::l,c,h=>by
  simp only[Lib.indexByte] at h
  by_cases hb:(b==c)=true
  ·rw[if_pos hb] at h;omega
  rw[if_neg hb] at h
  by_cases h1:(Lib.indexByte l c== -1)=true
  ·have e:Lib.indexByte l c= -1:=by simpa using h1
   have:=ix_neg (s:=l) (c:=c) (by omega)
   have hb':b≠c:=by simpa using hb
   simp only[zF,not_or]
   exact⟨fun e=>hb' e.symm,this⟩
  rw[if_neg h1] at h
  have:=Lib.indexByte_ge l c
  have hne:Lib.indexByte l c≠ -1:=by simpa using h1
  omega
theorem ix_self {s:List UInt8} {c:UInt8} (h:(bif decide ((1:Int)=0) then true else decide ([c]=s))=true):(0:Int)=Lib.indexByte s c:=by
 have:[c]=s:=by simpa using h
 subst this
 simp[Lib.indexByte]
def cut3 (s:List UInt8) (c:UInt8):List UInt8×List UInt8×Bool:=if Lib.indexByte s c<0 then (s,[],false) else (s.take (Lib.indexByte s c).toNat,s.drop ((Lib.indexByte s c).toNat+1),true)
theorem cut3_no {s:List UInt8} {c:UInt8} (h:¬0<=Lib.indexByte s c):cut3 s c=(s,[],false):=by unfold cut3;exact if_pos (by omega)
theorem cut3_yes {s:List UInt8} {c:UInt8} {n:Nat} (h:Lib.indexByte s c=(n:Int)):cut3 s c=(s.take n,s.drop (n+1),true):=by
 unfold cut3;rw[h,if_neg (by omega),zU]
theorem kH (p:List UInt8):((cut3 p 61).2.2=true->cutP p=some ((cut3 p 61).1,(cut3 p 61).2.1))/\((cut3 p 61).2.2=false->cutP p=none):=by
 have c61:∀ b:UInt8,((b.toNat:Nat):Int)=61↔b=61:=fun b=>by
  constructor
  ·intro h;exact UInt8.toNat_inj.1 (by have e:(61:UInt8).toNat=61:=rfl;omega)
  rintro rfl;rfl
 by_cases h:0<=Lib.indexByte p 61
 ·obtain⟨n,e,k1,k2,k3⟩:=ix_nat h
  rw[cut3_yes e]
  refine⟨fun _=>?_,fun h=>by cases h⟩
  exact (cutP_at p n (by omega) fun j hj hq=>k3 j hj ((c61 _).1 hq)).2 k1 ((c61 _).2 k2)
 rw[cut3_no h]
 refine⟨fun h=>(by cases h),fun _=>?_⟩
 have hn:=ix_neg (s:=p) (c:=61) (by omega)
 exact (cutP_at p p.length (zz _) fun j hj hq=>hn (by have:=(c61 _).1 hq;rw[<-this];exact getD_mem hj)).1 rfl
theorem c32 (b:UInt8):((b.toNat:Nat):Int)=32↔b=32:=by
 constructor
 ·intro h;exact UInt8.toNat_inj.1 (by have e:(32:UInt8).toNat=32:=rfl;omega)
 rintro rfl;rfl
theorem splGo_none:∀ (s acc:List UInt8),32∉s->Zr acc s=[acc++s]
 | [],acc,_=>by simp[Zr]
 | b::r,acc,h=>by
  simp only[zF,not_or] at h
  simp only[Zr]
  rw[zk (p:=((b.toNat:Nat):Int)=32) (fun e=>h.1 ((c32 b).1 e).symm),cond_false,splGo_none r _ h.2];simp
theorem splGo_at:∀ (s acc:List UInt8) (n:Nat),n<s.length->s.getD n 0=32->(∀ j,j<n->s.getD j 0≠32)->Zr acc s=(acc++s.take n)::Zr [] (s.drop (n+1))/\List.count 32 s=List.count 32 (s.drop (n+1))+1
 | [],_,n,h,_,_=>by simp at h
 | b::r,acc,0,_,h,_=>by
  have hb:b=32:=h
  subst hb
  simp only[Zr]
  exact⟨by simp,by simp⟩
 | b::r,acc,n+1,h1,h2,h3=>by
  have hb:b≠32:=h3 0 (by omega)
  obtain⟨k1,k2⟩:=splGo_at r (acc++[b]) n (by simpa using h1) (by simpa using h2) fun j hj=>by simpa using h3 (j+1) (by omega)
  simp only[Zr]
  rw[zk (p:=((b.toNat:Nat):Int)=32) (fun e=>hb ((c32 b).1 e)),cond_false,k1]
  exact⟨by simp,by rw[List.count_cons_of_ne hb];simpa using k2⟩
def GsI (s:List UInt8) (n2 i:Nat) (a:List (List UInt8)) (q:List UInt8):Prop:=a.length=n2/\q.length<=s.length/\i+List.count 32 q+1=n2/\jX s=a.take i++jX q
theorem gs_step {s q:List UInt8} {n2 i m:Nat} {a:List (List UInt8)} (h:GsI s n2 i a q) (e:Lib.indexByte q 32=(m:Int)) (hm:m<q.length) (h2:q.getD m 0=32) (h3:∀ j,j<m->q.getD j 0≠32):GsI s n2 (i+1) (a.set i (q.take m)) (q.drop (m+1)):=by
 obtain⟨k1,k2,k3,k4⟩:=h
 obtain⟨g1,g2⟩:=splGo_at q [] m hm h2 h3
 refine⟨by rw[List.length_set];exact k1,by rw[zo];omega,by omega,?_⟩
 have hi:i<a.length:=by omega
 rw[k4]
 unfold jX
 rw[g1,List.take_add_one,List.getElem?_set_self hi,List.take_set_of_le (zz _)]
 simp
theorem gs_end {s q:List UInt8} {n2 i:Nat} {a:List (List UInt8)} (h:GsI s n2 i a q) (hq:32∉q):(a.set i q).take (i+1)=jX s:=by
 obtain⟨k1,k2,k3,k4⟩:=h
 have hi:i<a.length:=by omega
 rw[k4]
 unfold jX
 rw[splGo_none q [] hq,List.take_add_one,List.getElem?_set_self hi,List.take_set_of_le (zz _)]
 rfl
theorem gs_no {s q:List UInt8} {n2 i:Nat} {a:List (List UInt8)} (h:GsI s n2 i a q) (hc:¬((i:Nat):Int)<((n2:Nat):Int)-1):32∉q:=by
 obtain⟨_,_,k3,_⟩:=h
 exact List.count_eq_zero.1 (by omega)
end Go.Lens.Tm
end
section
namespace Go.Lens.Tm
open Go.Lens.Tb Go.Proofs
variable [Lz]
set_option maxHeartbeats 4000000
set_option maxRecDepth 100000
attribute [local irreducible] TK PK T RG EfR Body CG
theorem w288 (hp:qH) (s:List UInt8) (c:UInt8):CKa 288 [vS (bsO s),.pv (.lit (.int .u8 ((UInt8.toNat c:Nat):Int)))] (vI (Lib.indexByte s c)):=by
 exact cG qf288 rfl (nB rfl) rfl (C rfl (w310 hp s c) rfl rfl rfl (Rt rfl (leaf rfl rfl)))
theorem w246 (hp:qH) (s:List UInt8) (c:UInt8) (hl:s.length<=1000000):CKa 246 [vS (bsO s),vS (bsO [c])] (vI (Lib.indexByte s c)):=by
 refine cG qf246 rfl (nB rfl) rfl (E rfl (B.lenB1 (c:=c) rfl un9) (Eg rfl rfl (fun hc=>B.move rfl) rfl (Eg rfl rfl (fun hc=>B.move rfl) rfl (Eg rfl rfl (fun hc=>B.seqB (a:=[c]) (b:=s) (qy rfl hc) (qy rfl hc)) rfl (E rfl (B.pick rfl rfl rfl rfl (gdB rfl) (qZ _)) (Cb rfl rfl (fun h1=>?_) (fun h1=>?_)))))))
 ·exact Rt rfl (leaf (val0:=vI 0) (by kernel_rfl) (li (by exact ix_self h1)))
 exact CT rfl rfl (E rfl (B.sidx (i:=0) rfl rfl un9 rfl (show 0<List.length [c] from (by simp))) (C rfl (w288 hp s c) rfl rfl rfl (Rt rfl (leaf rfl rfl))))
theorem w245 (hp:qH) (s:List UInt8) (c:UInt8) (hl:s.length<=1000000):CKa 245 [vS (bsO s),vS (bsO [c])] (vI (Lib.indexByte s c)):=by
 exact cG qf245 rfl (nB rfl) rfl (C rfl (w246 hp s c (by omega)) rfl rfl rfl (Rt rfl (leaf rfl rfl)))
theorem w244 (hp:qH) (s:List UInt8) (c:UInt8) (hl:s.length<=1000000):CKa 244 [vS (bsO s),vS (bsO [c])] (vI ((List.count c s:Nat):Int)):=by
 exact cG qf244 rfl (nB rfl) rfl (E rfl (B.lenB1 (c:=c) rfl un9) (CF rfl rfl (E rfl (B.lenB1 (c:=c) rfl un9) (CT rfl rfl (E rfl (B.sidx (i:=0) rfl rfl un9 rfl (show 0<List.length [c] from (by simp))) (C rfl (w287 hp s c) rfl rfl rfl (Rt rfl (leaf rfl rfl))))))))
theorem w171 (hp:qH) (s:List UInt8) (c:UInt8) (hl:s.length<=1000000):CKa 171 [vS (bsO s),vS (bsO [c])] (.tup [vS (bsO (cut3 s c).1),vS (bsO (cut3 s c).2.1),vB (cut3 s c).2.2]):=by
 refine cG qf171 rfl (nB rfl) rfl (C rfl (w246 hp s c (by omega)) rfl rfl rfl (Cp rfl rfl (fun h1=>?_) (fun h1=>?_)))
 ·refine tk 3 rfl ?_
  refine tn ⟨[(0,vS (bsO s)),(1,vS (bsO [c])),(7,vI (Lib.indexByte s c))],[]⟩ rfl rfl rfl ?_
  obtain⟨n,hn,hns,_,_⟩:=ix_nat h1
  rw[hn]
  exact kc (E rfl (B.slHB (a:=s) (j:=n) rfl rfl un9 rfl (by omega)) (E rfl (B.lenB1 (c:=c) rfl un9) (E rfl (B.add rfl rfl (by unfold R64;omega)) (E rfl (B.slLB (a:=s) (i:=(n+1)) rfl rfl un9 (by omega) (by omega)) (Dr rfl (by kernel_rfl) (Rt rfl (leaf (val0:=.tup [vS (bsO (List.take n s)),vS (bsO (List.drop (n+1) s)),vB true]) (by kernel_rfl) (tup3 (ls (by rw[cut3_yes hn])) (ls (by rw[cut3_yes hn])) (lb (by rw[cut3_yes hn]))))))))))
 exact Rt rfl (leaf (val0:=.tup [vS (bsO s),vS (bsO []),vB false]) (by kernel_rfl) (tup3 (ls (by rw[cut3_no h1])) (ls (by rw[cut3_no h1])) (lb (by rw[cut3_no h1]))))
theorem w117 (hp:qH) (s:List UInt8) (c:UInt8) (hl:s.length<=1000000):CKa 117 [vS (bsO s),vS (bsO [c])] (.tup [vS (bsO (cut3 s c).1),vS (bsO (cut3 s c).2.1),vB (cut3 s c).2.2]):=by
 exact cG qf117 rfl (nB rfl) rfl (C rfl (w171 hp s c (by omega)) rfl rfl rfl (Rt rfl (leaf rfl rfl)))
theorem w170 (hp:qH) (s:List UInt8) (hl:s.length<=1000000):CKa 170 [vS (bsO s),vS (bsO [32]),vI 0,vI (-1)] (vL eN (jX s)):=by
 refine cG qf170 rfl (nB rfl) rfl (E rfl (B.j4 (enc:=eN) rfl) (CF rfl rfl (E rfl (B.seqB (a:=[32]) (b:=[]) rfl rfl) (CF rfl rfl (CT rfl rfl ?_)))))
 have hcl:List.count 32 s<=s.length:=List.count_le_length
 refine C rfl (w244 hp s 32 (by omega)) rfl rfl rfl (E rfl (B.add rfl rfl (by unfold R64;omega)) (E rfl (B.lenB (a:=s) rfl un9) (E rfl (B.add rfl rfl (by unfold R64;omega)) (E rfl (B.min rfl rfl) ?_))))
 refine tk 8 rfl ?_
 refine tn ⟨[(0,vS (bsO s)),(1,vS (bsO [32])),(2,vI 0),(3,vI (min (((List.count 32 s:Nat):Int)+1) ((s.length:Int)+1)))],[]⟩ rfl rfl rfl ?_
 obtain⟨n2,hn2⟩:∃ n2,n2=List.count 32 s+1:=⟨_,rfl⟩
 rw[show (min (((List.count 32 s:Nat):Int)+1) ((s.length:Int)+1))=(n2:Int) by omega]
 refine kc (E rfl (B.makeSl (enc:=eN) (sz:=1) (z0:=[]) (n:=n2) (m:=n2) rfl rfl rfl ji in9 rfl rfl rfl by9 (by omega) rfl rfl) (E rfl (B.sub rfl rfl (by unfold R64;omega)) (l3 (fun (i:Nat) (a:List (List UInt8)) (q:List UInt8)=>[(0,vS (bsO q)),(1,vS (bsO [32])),(2,vI 0),(3,vI ((n2:Int)-1)),(9,.aref 32 0),(10,vI i)]) (fun _ a _=>[(32,.arr 0 1 9 (List.map eN a))]) (fun i a q=>GsI s n2 i a q) (fun i _ _=>n2-i) 0 (List.replicate n2 []) s rfl ?_ (sb rfl rfl rfl) ?_)))
 · exact⟨qe,zz _,by omega,by simp⟩
 intro i a q hI0
 have hal:=hI0.1
 have hil:=hI0.2.2.1
 refine Cp rfl rfl (fun h1=>?_) (fun h1=>?_)
 ·have hql:=hI0.2.1
  refine C rfl (w245 hp q 32 (by omega)) rfl rfl rfl (Cp rfl rfl (fun h2=>?_) (fun h2=>?_))
  ·have hal:=hI0.1
   have hil:=hI0.2.2.1
   exact E rfl (B.idxE (n:=i) rfl rfl rfl ji sz9 rfl (by omega)) (E rfl (B.setE (z0:=q) rfl rfl rfl rfl rfl sz9 (by omega) (fun _=>rfl)) (Fz 18 9 rfl rfl rfl (E rfl (B.add rfl rfl (by unfold R64;omega)) (E rfl (B.slT (j:=(i+1)) rfl rfl ji sz9 (by omega) (by (simp only[List.length_set];omega))) (Rt rfl (leaf (val0:=vL eN (List.take (i+1) (List.set a i q))) (by kernel_rfl) (lsl (by exact gs_end hI0 (ix_neg (by assumption))))))))))
  refine tk 14 rfl ?_
  refine tn ⟨[(0,vS (bsO q)),(1,vS (bsO [32])),(2,vI 0),(3,vI ((n2:Int)-1)),(9,.aref 32 0),(10,vI i),(11,vI (Lib.indexByte q 32))],[(32,.arr 0 1 9 (List.map eN a))]⟩ rfl rfl rfl ?_
  obtain⟨m,hm,hmq,hm2,hm3⟩:=ix_nat (show 0<=Lib.indexByte q 32 by omega)
  rw[hm]
  refine kc (E rfl (B.add rfl rfl (by unfold R64;omega)) (E rfl (B.slHB (a:=q) (j:=(Int.toNat ((m:Int)+0))) rfl rfl un9 (Int.toNat_of_nonneg (by omega)).symm (by omega)) (E rfl (B.idxE (n:=i) rfl rfl rfl ji sz9 rfl (by omega)) (E rfl (B.setE (z0:=(List.take (Int.toNat ((m:Int)+0)) q)) rfl rfl rfl rfl rfl sz9 (by omega) (fun _=>rfl)) (E rfl (B.lenB1 (c:=32) rfl un9) (E rfl (B.add rfl rfl (by unfold R64;omega)) (E rfl (B.slLB (a:=q) (i:=(m+1)) rfl rfl un9 (by omega) (by omega)) (E rfl (B.add rfl rfl (by unfold R64;omega)) (pk rfl (L3 (i+1) (List.set a i (List.take (Int.toNat ((m:Int)+0)) q)) (List.drop (m+1) q) ?_ ?_ (sb rfl rfl rfl)))))))))))
  · exact gs_step hI0 hm hmq hm2 hm3
  · omega
 have hal:=hI0.1
 have hil:=hI0.2.2.1
 exact E rfl (B.idxE (n:=i) rfl rfl rfl ji sz9 rfl (by omega)) (E rfl (B.setE (z0:=q) rfl rfl rfl rfl rfl sz9 (by omega) (fun _=>rfl)) (Fz 18 9 rfl rfl rfl (E rfl (B.add rfl rfl (by unfold R64;omega)) (E rfl (B.slT (j:=(i+1)) rfl rfl ji sz9 (by omega) (by (simp only[List.length_set];omega))) (Rt rfl (leaf (val0:=vL eN (List.take (i+1) (List.set a i q))) (by kernel_rfl) (lsl (by exact gs_end hI0 (gs_no hI0 (by assumption))))))))))
theorem w116 (hp:qH) (s:List UInt8) (hl:s.length<=1000000):CKa 116 [vS (bsO s),vS (bsO [32])] (vL eN (jX s)):=by
 exact cG qf116 rfl (nB rfl) rfl (E rfl (B.j4 (enc:=eN) rfl) (C rfl (w170 hp s (by omega)) rfl rfl rfl (Rt rfl (leaf rfl rfl))))
end Go.Lens.Tm
end
section
namespace Go.Lens.Tm
open Go.Lens.Tb Go.Proofs
variable [Lz]
theorem cut3_len (p:List UInt8) (c:UInt8):(cut3 p c).2.1.length<=p.length:=by
 unfold cut3
 split
 ·simp
 simp
theorem out_len {N:Nat} {out:List Fld} {p:List UInt8} {c:UInt8} (h:∀ f∈out,f.2.length<=N) (hp:p.length<=N):∀ f∈out++[((cut3 p c).1,(cut3 p c).2.1)],f.2.length<=N:=by
 intro f hf
 rcases zI.1 hf with hf|hf
 ·exact h f hf
 simp only[zg] at hf
 subst hf
 exact qi (cut3_len p c) hp
end Go.Lens.Tm
end
section
namespace Go.Lens.Tm
open Go.Lens.Tb Go.Proofs
variable [Lz]
set_option maxRecDepth 100000
attribute [local irreducible] TK PK T RG EfR Body CG
set_option maxHeartbeats 4000000 in
theorem w37 (hp:qH) (s:List UInt8) (hl:s.length<=100000):CKa 37 [vS (bsO s)] (.tup [vL eF (kT s).1,vI (kT s).2]):=by
 refine cG qf37 rfl (nB rfl) rfl ?_
 have hsl:(jX s).length<=s.length+1:=spl_len s []
 refine E rfl (B.j4 (enc:=eF) rfl) (E rfl (B.seqB (a:=s) (b:=[]) rfl rfl) (Cp rfl rfl (fun h1=>?_) (fun h1=>?_)))
 ·refine E rfl (B.j4 (enc:=eF) rfl) ?_
  exact Rt rfl (leaf (val0:=.tup [vL eF [],vI 0]) (by kernel_rfl) (tup2 (lsl (by first
          | rw[Zi h1]
          | rw[kj h1 (par_none hI0.2.2.1 (by omega) ((kH _).2 (bnot_t h3)))]
          | rw[Zg h1 hpe (by assumption)]
          | rw[parF_ok h1 hpe (by assumption)])) (li (by first
          | rw[Zi h1]
          | rw[kj h1 (par_none hI0.2.2.1 (by omega) ((kH _).2 (bnot_t h3)))]
          | rw[Zg h1 hpe (by assumption)]
          | rw[parF_ok h1 hpe (by assumption)]))))
 refine E rfl (B.adopt 5 2 174 rfl rfl) (C rfl (w116 hp s (by omega)) rfl rfl rfl (E rfl (B.je rfl ji) (l3 (fun (k:Nat) (v:Nat) (out:List Fld)=>[(4,.aref 5 v),(14,vL eN (jX s)),(15,vI ((List.length (jX s):Nat):Int)),(16,vI k)]) (fun _ v out=>[(5,.arr v 2 174 (List.map eF out))]) (fun k _ out=>k<=List.length (jX s)/\out.length=k/\Z3 (jX s)=Option.map (fun r=>out++r) (Z3 (List.drop k (jX s)))/\(∀ f:Fld,f∈out->f.2.length<=s.length)) (fun k _ _=>List.length (jX s)-k) 0 0 [] rfl ?_ (sb rfl rfl rfl) ?_)))
 · exact⟨zq _,rfl,by simp,fun f hf=>by cases hf⟩
 intro k v out hI0
 refine Cp rfl rfl (fun h2=>?_) (fun h2=>?_)
 ·refine E rfl (B.idx (z:=[]) (i:=k) rfl rfl ji sz9 (fun _=>rfl) rfl (by first|omega|(have hc2:=hc;simp only[beq_iff_eq,zf,zH] at hc2;omega)|(simp only[za,zb,zd,zn,zo];omega))) ?_
  have hpl:=spl_part s [] _ (getD_mem (l:=jX s) (k:=k) (z:=[]) (by omega))
  simp only[zd,Nat.zero_add] at hpl
  refine C rfl (w117 hp (List.getD (jX s) k []) 61 (by omega)) rfl rfl rfl (Cb rfl rfl (fun h3=>?_) (fun h3=>?_))
  ·refine E rfl (B.j4 (enc:=eF) rfl) ?_
   exact Rt rfl (leaf (val0:=.tup [vL eF [],vI 25]) (by kernel_rfl) (tup2 (lsl (by first
         | rw[Zi h1]
         | rw[kj h1 (par_none hI0.2.2.1 (by omega) ((kH _).2 (bnot_t h3)))]
         | rw[Zg h1 hpe (by assumption)]
         | rw[parF_ok h1 hpe (by assumption)])) (li (by first
         | rw[Zi h1]
         | rw[kj h1 (par_none hI0.2.2.1 (by omega) ((kH _).2 (bnot_t h3)))]
         | rw[Zg h1 hpe (by assumption)]
         | rw[parF_ok h1 hpe (by assumption)]))))
  refine E rfl (B.jj (val:=.pv (.slice (List.map eF [((cut3 (List.getD (jX s) k []) 61).1,(cut3 (List.getD (jX s) k []) 61).2.1)]))) rfl (fun l=>Frz.arr l _ _ _ _ _) rfl) (E rfl (B.append rfl rfl rfl un59 in174 rfl (fun _=>rfl) by174 (by first|omega|(have hc2:=hc;simp only[beq_iff_eq,zf,zH] at hc2;omega)|(simp only[za,zb,zd,zn,zo];omega))) (E rfl (B.add rfl rfl (by unfold R64;omega)) (pk rfl (L3 (k+1) (v+1) (out++[((cut3 (List.getD (jX s) k []) 61).1,(cut3 (List.getD (jX s) k []) 61).2.1)]) ?_ ?_ (sb rfl rfl rfl)))))
  · (refine⟨by omega,by simp only[za,zb,zd];omega,par_some hI0.2.2.1 (by omega) ((kH _).1 (bnot_f h3)),out_len hI0.2.2.2 hpl⟩)
  · omega
 have hpe:=par_end hI0.2.2.1 (by omega)
 have hcq:∀ f∈out,f.2.length<=1000000000000000:=fun f hf=>qi (hI0.2.2.2 f hf) (by omega)
 refine Fz 12 4 rfl rfl rfl (C rfl (w41 out (by omega) hcq) rfl rfl rfl (Cp rfl rfl (fun h4=>?_) (fun h4=>?_)))
 ·refine E rfl (B.j4 (enc:=eF) rfl) ?_
  exact Rt rfl (leaf (val0:=.tup [vL eF [],vI (jt out)]) (by kernel_rfl) (tup2 (lsl (by first
        | rw[Zi h1]
        | rw[kj h1 (par_none hI0.2.2.1 (by omega) ((kH _).2 (bnot_t h3)))]
        | rw[Zg h1 hpe (by assumption)]
        | rw[parF_ok h1 hpe (by assumption)])) (li (by first
        | rw[Zi h1]
        | rw[kj h1 (par_none hI0.2.2.1 (by omega) ((kH _).2 (bnot_t h3)))]
        | rw[Zg h1 hpe (by assumption)]
        | rw[parF_ok h1 hpe (by assumption)]))))
 exact Rt rfl (leaf (val0:=.tup [vL eF out,vI 0]) (by kernel_rfl) (tup2 (lsl (by first
       | rw[Zi h1]
       | rw[kj h1 (par_none hI0.2.2.1 (by omega) ((kH _).2 (bnot_t h3)))]
       | rw[Zg h1 hpe (by assumption)]
       | rw[parF_ok h1 hpe (by assumption)])) (li (by first
       | rw[Zi h1]
       | rw[kj h1 (par_none hI0.2.2.1 (by omega) ((kH _).2 (bnot_t h3)))]
       | rw[Zg h1 hpe (by assumption)]
       | rw[parF_ok h1 hpe (by assumption)]))))
end Go.Lens.Tm
end
section
namespace Go.Lens.Tb
def badB (start:Int) (W:List Int) (t:Tgt) (e:Int):Int:=qP [kf start W,Zh [t],qG e 0 1440]
def begT (start:Int) (W:List Int) (t:Tgt) (e:Int):Int:=if badB start W t e≠0 then 0 else if begF W t e<0 then 0 else begF W t e
def begE (start:Int) (W:List Int) (t:Tgt) (e:Int):Int:=if badB start W t e≠0 then badB start W t e else if begF W t e<0 then 7 else 0
def badT (start:Int) (W:List Int) (l:List Tgt) (o:List Int):Int:=qP [kf start W,Zh l,chkOrdF l.length o]
def tlT (start:Int) (W:List Int) (l:List Tgt) (o:List Int):List Int:=if badT start W l o≠0 then [] else (tlF start W l o).getD []
def tlE (start:Int) (W:List Int) (l:List Tgt) (o:List Int):Int:=if badT start W l o≠0 then badT start W l o else (bif (tlF start W l o).isSome then 0 else 23)
theorem bad1 {a b c:Int} (h:qP [a,b]≠0):qP [a,b,c]=qP [a,b]:=by
  simp only[qP] at h ⊢
  split
  · rename_i ha
    rw[if_pos ha] at h
    split
    · rename_i hb;rw[if_pos hb] at h;exact absurd rfl h
    · rfl
  · rfl
theorem bad2 {a b c:Int} (h:qP [a,b]=0):qP [a,b,c]=c:=by
  simp only[qP] at h ⊢
  split
  · rename_i ha
    rw[if_pos ha] at h
    split
    · split
      · rename_i hc;exact hc.symm
      · rfl
    · rename_i hb;rw[if_neg hb] at h;exact absurd h hb
  · rename_i ha;rw[if_neg ha] at h;exact absurd h ha
theorem tl_ok {start:Int} {W:List Int} {l:List Tgt} {o:List Int} (h:qP [kf start W,Zh l]=0) (h2:chkOrdF l.length o=0):tlT start W l o=(tlF start W l o).getD []/\tlE start W l o=bif (tlF start W l o).isSome then 0 else 23:=by
  have e:badT start W l o=0:=(bad2 h).trans h2
  unfold tlT tlE
  rw[e,if_neg (by simp),if_neg (by simp)];exact⟨rfl,rfl⟩
section
variable {start:Int} {W:List Int} {l:List Tgt} {o:List Int} {t:Tgt} {e:Int}
theorem bt_of (h:qP [kf start W,Zh l,chkOrdF ((l.length:Nat):Int) o]=0):qP [kf start W,Zh l]=0/\chkOrdF l.length o=0:=by
  by_cases h1:qP [kf start W,Zh l]=0
  · exact⟨h1,(bad2 h1).symm.trans h⟩
  · exact absurd ((bad1 h1).symm.trans h) h1
theorem g1 (h0:qP [kf start W,Zh l,chkOrdF ((l.length:Nat):Int) o]=0)
    (h:(bif decide (tlE start W l o≠qF (!(tlF start W l o).isSome) 23) then true else !(decide (tlT start W l o=(tlF start W l o).getD [])))=true):false=true:=by
  obtain⟨h1,h2⟩:=bt_of h0
  obtain⟨e1,e2⟩:=tl_ok h1 h2
  rw[e1,e2] at h
  unfold qF at h
  cases hs:(tlF start W l o).isSome<;>rw[hs] at h<;>simp at h
theorem g2 (h0:¬qP [kf start W,Zh l,chkOrdF ((l.length:Nat):Int) o]=0)
    (h:(bif decide (tlE start W l o≠qP [kf start W,Zh l,chkOrdF ((l.length:Nat):Int) o]) then true else !(decide (tlT start W l o=[])))=true):false=true:=by
  have e1:tlT start W l o=[]:=by unfold tlT badT;rw[if_pos h0]
  have e2:tlE start W l o=qP [kf start W,Zh l,chkOrdF ((l.length:Nat):Int) o]:=by unfold tlE badT;rw[if_pos h0]
  rw[e1,e2] at h
  simp at h
theorem f1 (h:¬badB start W t e=0):(bif (bif decide (begE start W t e=badB start W t e) then decide (begT start W t e=0) else false) then true else false)=true:=by
  unfold begE begT;rw[if_pos h,if_pos h];simp
theorem f2 (h:badB start W t e=0) (h2:begF W t e<0):(bif (bif decide (begE start W t e=7) then decide (begT start W t e=0) else false) then true else false)=true:=by
  unfold begE begT;simp[h,h2]
theorem f3 (h:badB start W t e=0) (h2:¬begF W t e<0):(bif (bif decide (begE start W t e=badB start W t e) then decide (begT start W t e=begF W t e) else false) then true else false)=true:=by
  unfold begE begT;simp[h,h2]
end
end Go.Lens.Tb
end
section
namespace Go.Lens.Tb
open Go.Proofs
structure Ch where
 order:List Int
 bright:Int
 end_:Int
theorem PK.nil [Lz] {P:Program} {n nb:Nat} {Q:Exit->St->Prop} {s:St} (h:Q .normal s):PK P n nb Q [] .normal s:=h
end Go.Lens.Tb
end
section
namespace Go.Lens.Tm
open Go.Lens.Tb Go.Proofs
variable [Lz]
def joinF:List (List UInt8)->List UInt8
 | []=>[]
 | w::r=>w++r.flatMap fun x=>32::x
def jA:Prop:=∀ ws:List (List UInt8),ws.length<=1000->(∀ w∈ws,w.length<=1000)->CKa 169 [vL eN ws,vS (bsO [32])] (vS (bsO (joinF ws)))
theorem join_snoc (l:List (List UInt8)) (w:List UInt8) (h:l≠[]):joinF (l++[w])=joinF l++32::w:=by
 cases l with
 | nil=>exact absurd rfl h
 | cons a l=>simp[joinF]
theorem join_prt (l:List Fld):∀ k,k<=l.length->joinF ((l.take k).map fldP)=prtK l k
 | 0,_=>rfl
 | k+1,hk=>by
  have ih:=join_prt l k (by omega)
  rw[take_fld l k (by omega),qd,zw,zZ]
  simp only[prtK]
  by_cases h0:0<k
  ·rw[join_snoc _ _ (by
     intro e
     have:=congrArg List.length e
     rw[zJ,zn,zd] at this
     omega),ih,zl h0]
   simp[fldP]
  have:k=0:=by omega
  subst this
  simp[joinF,fldP,prtK]
theorem join_all (l:List Fld):joinF (l.map fldP)=prtF l:=by
 have:=join_prt l l.length (zz _)
 rwa [zx (zz _)] at this
theorem words_le {l:List Fld} (h:l.length<=26/\∀ f∈l,f.1.length<=60/\f.2.length<=100):∀ w∈l.map fldP,w.length<=1000:=by
 intro w hw
 obtain⟨f,hf,rfl⟩:=zE.1 hw
 have:=h.2 f hf
 simp only[fldP,za,zb,zd];omega
theorem parF_cases (s:List UInt8):(kT s).1=[]\/jt (kT s).1=0:=by
 unfold kT
 split
 ·exact .inl rfl
 split
 ·exact .inl rfl
 rename_i l _
 by_cases hq:jt l=0
 ·right
  show jt (if jt l=0 then (l,0) else ([],jt l)).1=0
  rw[if_pos hq];exact hq
 left
 show (if jt l=0 then (l,0) else ([],jt l)).1=[]
 rw[if_neg hq]
theorem parF_fit (s:List UInt8):(kT s).1.length<=26/\∀ f∈(kT s).1,f.1.length<=60/\f.2.length<=100:=by
 rcases parF_cases s with h|h
 ·rw[h];exact⟨by simp,fun f hf=>by cases hf⟩
 obtain⟨h1,h2⟩:=chk_parts h
 refine⟨by omega,fun f hf=>?_⟩
 obtain⟨j,hj,rfl⟩:=mem_getD ([],[]) hf
 have:=chkF_len (h2 j hj).1
 omega
def reb (g:List UInt8->Option (List UInt8)):List (List UInt8)->List Fld
 | []=>[]
 | x::N=>if (g x).isSome then (x,(g x).getD [])::reb g N else reb g N
def chF (B M T:List Fld) (x:List UInt8):Option (List UInt8):=if jl x M=jl x T then jl x M else if jl x M=jl x B then jl x T else jl x M
def okF (B M T:List Fld) (x:List UInt8):Prop:=jl x M=jl x T\/jl x M=jl x B\/jl x T=jl x B
instance (B M T:List Fld) (x:List UInt8):Decidable (okF B M T x):=inferInstanceAs (Decidable (_\/_\/_))
theorem rm_fst (B M T:List Fld):∀ N,(rmGo B M T N).1=reb (chF B M T) N
 | []=>rfl
 | x::N=>by rw[reb,<-rm_fst B M T N];rfl
theorem nm_srt (A:List Fld):(ZD A).Pairwise (· < ·):=(foldS A [] List.Pairwise.nil).1
end Go.Lens.Tm
end
section
namespace Go.Lens.Tm
open Go.Lens.Tb Go.Proofs
variable [Lz]
set_option maxHeartbeats 4000000
set_option maxRecDepth 100000
attribute [local irreducible] TK PK T RG EfR Body CG
theorem w115 (hj:jA) (l:List Fld) (hb:l.length<=26/\∀ f∈l,f.1.length<=60/\f.2.length<=100):CKa 115 [vL eF l] (vS (bsO (prtF l))):=by
 refine cG qf115 rfl (nB rfl) rfl (E rfl (B.adopt 4 1 9 rfl rfl) (E rfl (B.je rfl un59) (l3 (fun (k:Nat) (v:Nat) (out:List (List UInt8))=>[(3,.aref 4 v),(6,vL eF l),(7,vI l.length),(8,vI k)]) (fun _ v out=>[(4,.arr v 1 9 (List.map eN out))]) (fun k _ out=>k<=l.length/\out.length=k/\out=List.map fldP (List.take k l)) (fun k _ _=>l.length-k) 0 0 [] rfl ?_ (sb rfl rfl rfl) ?_)))
 · exact⟨zq _,rfl,rfl⟩
 intro k v out hI0
 refine Cp rfl rfl (fun h1=>?_) (fun h1=>?_)
 ·refine E rfl (B.idx (z:=([],[])) (i:=k) rfl rfl un59 sz174 (fun _=>rfl) rfl (by omega)) ?_
  have hkb:=hb.2 _ (getD_mem (l:=l) (k:=k) (z:=([],[])) (by omega))
  refine E rfl (B.catB (a:=(l.getD k ([],[])).1) (b:=[61]) rfl rfl (by (simp only[za,zb,zd];omega))) (E rfl (B.catB (a:=((l.getD k ([],[])).1++[61])) (b:=(l.getD k ([],[])).2) rfl rfl (by (simp only[za,zb,zd];omega))) (E rfl (B.jj (val:=.pv (.slice (List.map eN [(((l.getD k ([],[])).1++[61])++(l.getD k ([],[])).2)]))) rfl (fun l=>Frz.arr l _ _ _ _ _) rfl) (E rfl (B.append rfl rfl rfl ji in9 rfl (fun _=>rfl) by9 (by (simp only[za,zb,zd,zn,zo];omega))) (E rfl (B.add rfl rfl (by unfold R64;omega)) (pk rfl (L3 (k+1) (v+1) (out++[(((l.getD k ([],[])).1++[61])++(l.getD k ([],[])).2)]) ?_ ?_ (sb rfl rfl rfl)))))))
  · (refine⟨by omega,by simp only[za,zb,zd];omega,?_⟩;rw[take_fld l k (by omega),qd,hI0.2.2];rfl)
  · omega
 have hou:out=l.map fldP:=by rw[hI0.2.2,zx (by omega)]
 have hjw:∀ w∈out,w.length<=1000:=by rw[hou];exact words_le hb
 exact Fz 7 3 rfl rfl rfl (C rfl (hj out (by omega) hjw) rfl rfl rfl (Rt rfl (leaf (val0:=vS (bsO (joinF out))) (by kernel_rfl) (ls (by rw[hou,join_all l])))))
end Go.Lens.Tm
end
section
namespace Go.Lens
variable [Lz]
end Go.Lens
namespace Go.Lens.Tm
open Go.Lens.Tb Go.Proofs
variable [Lz]
abbrev Fit (l:List Fld):Prop:=l.length<=26/\∀ f∈l,f.1.length<=60/\f.2.length<=100
end Go.Lens.Tm
end
section
namespace Go.Lens.Tm
open Go.Lens.Tb Go.Proofs
abbrev Cmd:=List UInt8×List UInt8×Int
def eC (c:Cmd):List PV:=[.lit (.string (bsO (Prod.fst c))),.lit (.string (bsO (Prod.fst (Prod.snd c)))),.lit (.int .i64 (Prod.snd (Prod.snd c)))]
abbrev gC (c:Cmd):PV:=.agg [pS (bsO c.1),pS (bsO c.2.1),pI c.2.2]
abbrev bC (t:TypeId) (c:Cmd):MO:=.box t [vS (bsO c.1),vS (bsO c.2.1),vI c.2.2]
abbrev z3:Cmd:=([],[],0)
abbrev kR:List UInt8:=[97,99,116]
abbrev kEnd:List UInt8:=[101,110,100]
abbrev kWait:List UInt8:=[119,97,105,116]
abbrev Zz:List UInt8:=[114,101,112,101,97,116]
def jV (o:List UInt8):Int:=if o=kR then 2 else if o=kWait then 2 else if o=Zz then 2 else if o=kEnd then 1 else 0
def jK (c:Cmd):Int:=
 if c.1=kR then qP [qF (!(qY (bsO c.2.1))) 8,qG c.2.2 0 0]
 else if c.1=kEnd then qP [qF (decide (c.2.1≠[])) 1,qG c.2.2 0 0]
 else if c.1=kWait then qP [qF (decide (c.2.1≠[])) 1,qG c.2.2 1 100000]
 else if c.1=Zz then qP [qF (decide (c.2.1≠[])) 1,qG c.2.2 1 100]
 else 13
def badC:List Cmd->Int
 | []=>0
 | c::l=>if jK c=0 then badC l else jK c
def depC:Nat->List Cmd->Int
 | d,[]=>if 0<d then 2 else 0
 | d,c::l=>if c.1=Zz then (if d=4 then 22 else depC (d+1) l) else if c.1=kEnd then (if d=0 then 2 else depC (d-1) l) else depC d l
def Zb:Int->List (Int×Int)->List Cmd->Int
 | s,_,[]=>s
 | s,st,c::l=>if c.1=Zz then Zb 1 ((s,c.2.2)::st) l else if c.1=kEnd then (match st with
   | []=>s
   | p::st=>Zb (p.1+p.2*s) st l) else Zb (s+1) st l
theorem jL (s:Int) (st:List (Int×Int)) (c:Cmd) (l:List Cmd):Zb s st (c::l)=if c.1=Zz then Zb 1 ((s,c.2.2)::st) l else if c.1=kEnd then (match st with
   | []=>s
   | p::st=>Zb (p.1+p.2*s) st l) else Zb (s+1) st l:=by cases st<;>rfl
def kE (l:List Cmd):Int:=Zb 0 [] l
def chkS (l:List Cmd):Int:=if 64<l.length then 5 else if badC l≠0 then badC l else if depC 0 l≠0 then depC 0 l else qF (decide (10000<kE l)) 22
def j5:Int->Nat->List Cmd->Nat
 | _,i,[]=>i
 | d,i,c::l=>if c.1=Zz then j5 (d+1) (i+1) l else if c.1=kEnd then (if d-1=0 then i else j5 (d-1) (i+1) l) else j5 d (i+1) l
def smL:List (Int×Int)->Int->List Int
 | [],s=>[s]
 | p::st,s=>smL st p.1++[s]
def cnL:List (Int×Int)->List Int
 | []=>[]
 | p::st=>cnL st++[p.2]
theorem dropC {l:List Cmd} {k:Nat} (h:k<l.length):l.drop k=l.getD k z3::l.drop (k+1):=by
 rw[ze,zm h,zP]
 exact List.drop_eq_getElem_cons h
theorem badC_ok {l:List Cmd} {k:Nat} (h:k<l.length) (h0:jK (l.getD k z3)=0):badC (l.drop k)=badC (l.drop (k+1)):=by
 rw[dropC h,badC,if_pos h0]
theorem badC_no {l:List Cmd} {k:Nat} (h:k<l.length) (h0:jK (l.getD k z3)≠0):badC (l.drop k)=jK (l.getD k z3):=by
 rw[dropC h,badC,if_neg h0]
theorem badC_all:∀ {l:List Cmd},badC l=0->∀ c∈l,jK c=0
 | [],_,c,hc=>by cases hc
 | a::l,h,c,hc=>by
  rw[badC] at h
  by_cases ha:jK a=0
  ·rw[if_pos ha] at h
   rcases zF.1 hc with rfl|hc
   ·exact ha
   exact badC_all h c hc
  rw[if_neg ha] at h;exact absurd h ha
theorem kF:Zz≠kEnd:=by decide
theorem dep_rep {l:List Cmd} {k d:Nat} (h:k<l.length) (h0:(l.getD k z3).1=Zz):depC d (l.drop k)=if d=4 then 22 else depC (d+1) (l.drop (k+1)):=by
 rw[dropC h,depC,if_pos h0]
theorem dep_end {l:List Cmd} {k d:Nat} (h:k<l.length) (h0:(l.getD k z3).1=kEnd):depC d (l.drop k)=if d=0 then 2 else depC (d-1) (l.drop (k+1)):=by
 rw[dropC h,depC,if_neg (by rw[h0];exact Ne.symm kF),if_pos h0]
theorem dep_one {l:List Cmd} {k d:Nat} (h:k<l.length) (h0:(l.getD k z3).1≠Zz) (h1:(l.getD k z3).1≠kEnd):depC d (l.drop k)=depC d (l.drop (k+1)):=by
 rw[dropC h,depC,if_neg h0,if_neg h1]
theorem len_rep {l:List Cmd} {k:Nat} {s:Int} {st:List (Int×Int)} (h:k<l.length) (h0:(l.getD k z3).1=Zz):Zb s st (l.drop k)=Zb 1 ((s,(l.getD k z3).2.2)::st) (l.drop (k+1)):=by
 rw[dropC h,jL,if_pos h0]
theorem len_end {l:List Cmd} {k:Nat} {s:Int} {p:Int×Int} {st:List (Int×Int)} (h:k<l.length) (h0:(l.getD k z3).1=kEnd):Zb s (p::st) (l.drop k)=Zb (p.1+p.2*s) st (l.drop (k+1)):=by
 rw[dropC h,jL,if_neg (by rw[h0];exact Ne.symm kF),if_pos h0]
theorem len_one {l:List Cmd} {k:Nat} {s:Int} {st:List (Int×Int)} (h:k<l.length) (h0:(l.getD k z3).1≠Zz) (h1:(l.getD k z3).1≠kEnd):Zb s st (l.drop k)=Zb (s+1) st (l.drop (k+1)):=by
 rw[dropC h,jL,if_neg h0,if_neg h1]
theorem mat_rep {l:List Cmd} {k:Nat} {d:Int} (h:k<l.length) (h0:(l.getD k z3).1=Zz):j5 d k (l.drop k)=j5 (d+1) (k+1) (l.drop (k+1)):=by
 rw[dropC h,j5,if_pos h0]
theorem mat_end {l:List Cmd} {k:Nat} {d:Int} (h:k<l.length) (h0:(l.getD k z3).1=kEnd):j5 d k (l.drop k)=if d-1=0 then k else j5 (d-1) (k+1) (l.drop (k+1)):=by
 rw[dropC h,j5,if_neg (by rw[h0];exact Ne.symm kF),if_pos h0]
theorem mat_one {l:List Cmd} {k:Nat} {d:Int} (h:k<l.length) (h0:(l.getD k z3).1≠Zz) (h1:(l.getD k z3).1≠kEnd):j5 d k (l.drop k)=j5 d (k+1) (l.drop (k+1)):=by
 rw[dropC h,j5,if_neg h0,if_neg h1]
theorem mat_nil {l:List Cmd} {k:Nat} {d:Int} (h:k=l.length):j5 d k (l.drop k)=k:=by
 rw[zN (by omega)];rfl
theorem smL_len:∀ (st:List (Int×Int)) (s:Int),(smL st s).length=st.length+1
 | [],_=>rfl
 | p::st,s=>by rw[smL,za,smL_len st];rfl
theorem cnL_len:∀ (st:List (Int×Int)),(cnL st).length=st.length
 | []=>rfl
 | p::st=>by rw[cnL,za,cnL_len st];rfl
theorem smL_get:∀ (st:List (Int×Int)) (s:Int),(smL st s).getD st.length 0=s
 | [],_=>rfl
 | p::st,s=>by
  rw[smL,ze,z8 (by rw[smL_len];simp),smL_len]
  simp
theorem smL_get2 (p:Int×Int) (st:List (Int×Int)) (s:Int):(smL (p::st) s).getD st.length 0=p.1:=by
 rw[smL,ze,qa (by rw[smL_len];omega),<-ze]
 exact smL_get st p.1
theorem cnL_get (p:Int×Int) (st:List (Int×Int)):(cnL (p::st)).getD st.length 0=p.2:=by
 rw[cnL,ze,z8 (by rw[cnL_len];omega),cnL_len]
 simp
theorem smL_set:∀ (st:List (Int×Int)) (s v:Int),(smL st s).set st.length v=smL st v
 | [],_,_=>rfl
 | p::st,s,v=>by
  rw[smL,List.set_append_right _ _ (by rw[smL_len];simp),smL_len]
  simp[smL]
theorem smL_pop (p:Int×Int) (st:List (Int×Int)) (s v:Int):((smL (p::st) s).set st.length v).take (st.length+1)=smL st v:=by
 rw[smL,List.set_append_left _ _ (by rw[smL_len];omega),smL_set,zK (by rw[smL_len];omega),zx (by rw[smL_len];omega)]
theorem cnL_pop (p:Int×Int) (st:List (Int×Int)):(cnL (p::st)).take st.length=cnL st:=by
 rw[cnL,zK (by rw[cnL_len];omega),zx (by rw[cnL_len];omega)]
theorem with_rng {n a b:Int} (h:qG n a b=0):a<=n/\n<=b:=by
 unfold qG qF ZX at h
 by_cases h1:n<a
 ·simp[h1] at h
 by_cases h2:b<n
 ·simp[h2] at h
 omega
theorem first2 {a b:Int} (h:qP [a,b]=0):a=0/\b=0:=by
 simp only[qP] at h
 split at h
 ·rename_i ha
  split at h
  ·rename_i hb;exact⟨ha,hb⟩
  rename_i hb;exact absurd h hb
 rename_i ha;exact absurd h ha
theorem cnt_rep {c:Cmd} (h:jK c=0) (h0:c.1=Zz):1<=c.2.2/\c.2.2<=100:=by
 unfold jK at h
 rw[h0] at h
 rw[if_neg (by decide),if_neg (by decide),if_neg (by decide),if_pos rfl] at h
 exact with_rng (first2 h).2
theorem cnt_wait {c:Cmd} (h:jK c=0) (h0:c.1=kWait):1<=c.2.2/\c.2.2<=100000:=by
 unfold jK at h
 rw[h0] at h
 rw[if_neg (by decide),if_neg (by decide),if_pos rfl] at h
 exact with_rng (first2 h).2
theorem ops_of {c:Cmd} (h:jK c=0):c.1=kR\/c.1=kEnd\/c.1=kWait\/c.1=Zz:=by
 unfold jK at h
 split at h
 ·exact .inl ‹_›
 split at h
 ·exact .inr (.inl ‹_›)
 split at h
 ·exact .inr (.inr (.inl ‹_›))
 split at h
 ·exact .inr (.inr (.inr ‹_›))
 cases h
theorem len_ge:∀ {l:List Cmd} {s:Int} {st:List (Int×Int)},depC st.length l=0->(∀ c∈l,jK c=0)->0<=s->(∀ p∈st,0<=p.1/\1<=p.2)->s<=Zb s st l/\∀ p∈st,p.1<=Zb s st l
 | [],s,st,hd,_,_,_=>by
  rw[depC] at hd
  have:st.length=0:=by
   split at hd
   ·cases hd
   omega
  obtain rfl:=zL this
  exact⟨Int.le_refl _,fun p hp=>by cases hp⟩
 | c::l,s,st,hd,hc,hs,hst=>by
  have hcl:∀ c∈l,jK c=0:=fun x hx=>hc x (zO _ hx)
  rw[depC] at hd
  rw[jL]
  by_cases h1:c.1=Zz
  ·rw[if_pos h1] at hd ⊢
   have hr:=cnt_rep (hc c (qm ..)) h1
   split at hd
   ·cases hd
   have:=len_ge (s:=1) (st:=(s,c.2.2)::st) hd hcl (by omega) (by
    intro p hp
    rcases zF.1 hp with rfl|hp
    ·exact⟨hs,hr.1⟩
    exact hst p hp)
   exact⟨this.2 _ (qm ..),fun p hp=>this.2 p (zO _ hp)⟩
  rw[if_neg h1] at hd ⊢
  by_cases h2:c.1=kEnd
  ·rw[if_pos h2] at hd ⊢
   match st,hd,hst with
   | [],hd,_=>simp at hd
   | p::st,hd,hst=>
    simp only[zb,Nat.add_sub_cancel] at hd
    rw[if_neg (by omega)] at hd
    have hp:=hst p (qm ..)
    have hm:s<=p.2*s:=by
     have:=Int.mul_le_mul_of_nonneg_right hp.2 hs
     omega
    have:=len_ge (s:=p.1+p.2*s) (st:=st) hd hcl (by omega) (fun q hq=>hst q (zO _ hq))
    refine⟨by show s<=Zb (p.1+p.2*s) st l;omega,fun q hq=>?_⟩
    rcases zF.1 hq with rfl|hq
    ·show q.1<=Zb (q.1+q.2*s) st l;omega
    exact this.2 q hq
  rw[if_neg h2] at hd ⊢
  have:=len_ge (s:=s+1) (st:=st) hd hcl (by omega) hst
  exact⟨by omega,this.2⟩
inductive Wf:Nat->List Cmd->Prop
 | nil (d:Nat):Wf d []
 | one {d:Nat} {c:Cmd} {l:List Cmd}:c.1≠Zz->c.1≠kEnd->Wf d l->Wf d (c::l)
 | rep {d:Nat} {c e:Cmd} {b l:List Cmd}:c.1=Zz->e.1=kEnd->Wf d b->Wf (d+1) l->Wf (d+1) (c::(b++e::l))
theorem wf_len {d:Nat} {l:List Cmd} (h:Wf d l):∀ (s:Int) (st:List (Int×Int)) (r:List Cmd),Zb s st (l++r)=Zb (s+kE l) st r:=by
 induction h with
 | nil d=>intro s st r;rw[zW];simp[kE,Zb]
 | @one d c l h1 h2 h ih=>
  intro s st r
  have e:kE (c::l)=1+kE l:=by
   have:=ih 1 [] []
   rw[zS] at this
   rw[kE,jL,if_neg h1,if_neg h2,Int.zero_add,this];rfl
  rw[zQ,jL,if_neg h1,if_neg h2,ih,e,Int.add_assoc]
 | @rep d c e b l h1 h2 hb hl ihb ihl=>
  have key:∀ (s:Int) (st:List (Int×Int)) (r:List Cmd),Zb s st ((c::(b++e::l))++r)=Zb (s+(c.2.2*(1+kE b)+kE l)) st r:=by
   intro s st r
   rw[zQ,jL,if_pos h1,z7,ihb,zQ,jL,if_neg (by rw[h2];exact Ne.symm kF),if_pos h2]
   show Zb (s+c.2.2*(1+kE b)) st (l++r)=_
   rw[ihl,Int.add_assoc]
  have e0:kE (c::(b++e::l))=c.2.2*(1+kE b)+kE l:=by
   have:=key 0 [] []
   rw[zS,Int.zero_add] at this
   exact this
  intro s st r
  rw[key,e0]
theorem wf_one_len {d:Nat} {c:Cmd} {l:List Cmd} (h1:c.1≠Zz) (h2:c.1≠kEnd) (h:Wf d l):kE (c::l)=1+kE l:=by
 have:=wf_len h 1 [] []
 rw[zS] at this
 rw[kE,jL,if_neg h1,if_neg h2,Int.zero_add,this];rfl
theorem wf_rep_len {d:Nat} {c e:Cmd} {b l:List Cmd} (h1:c.1=Zz) (h2:e.1=kEnd) (hb:Wf d b) (hl:Wf (d+1) l):kE (c::(b++e::l))=c.2.2*(1+kE b)+kE l:=by
 have h3:=wf_len hl (c.2.2*(1+kE b)) [] []
 rw[zS] at h3
 rw[kE,jL,if_pos h1,wf_len hb,jL,if_neg (by rw[h2];exact Ne.symm kF),if_pos h2]
 show Zb (0+c.2.2*(1+kE b)) [] l=_
 rw[Int.zero_add,h3];rfl
theorem wf_mat {d:Nat} {l:List Cmd} (h:Wf d l):∀ (q:Int) (i:Nat) (r:List Cmd),1<=q->j5 q i (l++r)=j5 q (i+l.length) r:=by
 induction h with
 | nil d=>intro q i r _;rfl
 | @one d c l h1 h2 h ih=>
  intro q i r hq
  rw[zQ,j5,if_neg h1,if_neg h2,ih _ _ _ hq,zb]
  congr 1;omega
 | @rep d c e b l h1 h2 hb hl ihb ihl=>
  intro q i r hq
  rw[zQ,j5,if_pos h1,z7,ihb _ _ _ (by omega),zQ,j5,if_neg (by rw[h2];exact Ne.symm kF),if_pos h2,if_neg (by omega),show q+1-1=q by omega,ihl _ _ _ hq]
  congr 1
  simp only[zb,za];omega
def Op:Nat->List Cmd->Prop
 | 0,l=>Wf 4 l
 | k+1,l=>∃ b e r,l=b++e::r/\e.1=kEnd/\Wf (4-(k+1)) b/\Op k r
theorem op_of:∀ {l:List Cmd} {k:Nat},k<=4->depC k l=0->Op k l
 | [],k,_,h=>by
  rw[depC] at h
  have:k=0:=by
   split at h
   ·cases h
   omega
  subst this
  exact Wf.nil 4
 | c::l,k,hk,h=>by
  rw[depC] at h
  by_cases h1:c.1=Zz
  ·rw[if_pos h1] at h
   split at h
   ·cases h
   rename_i h4
   obtain⟨b,e,r,rfl,he,hb,hr⟩:=op_of (k:=k+1) (by omega) h
   cases k with
   | zero=>exact Wf.rep h1 he hb hr
   | succ j=>
    obtain⟨b2,e2,r2,rfl,he2,hb2,hr2⟩:=hr
    refine⟨c::(b++e::b2),e2,r2,by simp,he2,?_,hr2⟩
    have:4-(j+1)=(4-(j+1+1))+1:=by omega
    rw[this] at hb2 ⊢
    exact Wf.rep h1 he hb hb2
  rw[if_neg h1] at h
  by_cases h2:c.1=kEnd
  ·rw[if_pos h2] at h
   split at h
   ·cases h
   rename_i h0
   cases k with
   | zero=>exact absurd rfl h0
   | succ j=>exact⟨[],c,l,rfl,h2,Wf.nil _,op_of (k:=j) (by omega) h⟩
  rw[if_neg h2] at h
  have ih:=op_of hk h
  cases k with
  | zero=>exact Wf.one h1 h2 ih
  | succ j=>
   obtain⟨b,e,r,rfl,he,hb,hr⟩:=ih
   exact⟨c::b,e,r,rfl,he,Wf.one h1 h2 hb,hr⟩
theorem wf_of {l:List Cmd} (h:depC 0 l=0):Wf 4 l:=op_of (k:=0) (by omega) h
theorem one_le_101 (d:Nat):(1:Int)<=101 ^ d:=by
 have h:(1:Nat)<=101 ^ d:=Nat.one_le_pow _ _ (by decide)
 have e:((101:Int) ^ d)=(((101:Nat) ^ d:Nat):Int):=by simp
 rw[e];omega
theorem wf_nn {d:Nat} {l:List Cmd} (h:Wf d l) (hc:∀ c∈l,jK c=0):0<=kE l/\kE l<=l.length*101 ^ d:=by
 induction h with
 | nil d=>simp[kE,Zb]
 | @one d c l h1 h2 h ih=>
  have:=ih fun x hx=>hc x (zO _ hx)
  rw[wf_one_len h1 h2 h]
  have hp:(1:Int)<=101 ^ d:=one_le_101 _
  have:((c::l).length:Int)*101 ^ d=(l.length:Int)*101 ^ d+101 ^ d:=by
   rw[zb,Int.natCast_add,Int.add_mul];simp
  omega
 | @rep d c e b l h1 h2 hb hl ihb ihl=>
  have kb:=ihb fun x hx=>hc x (by simp[hx])
  have kl:=ihl fun x hx=>hc x (by simp[hx])
  have hr:=cnt_rep (hc c (qm ..)) h1
  rw[wf_rep_len h1 h2 hb hl]
  have hp:(1:Int)<=101 ^ d:=one_le_101 _
  have n0:0<=c.2.2*(1+kE b):=Int.mul_nonneg (by omega) (by omega)
  have n1:c.2.2*(1+kE b)<=101*((1+b.length)*101 ^ d):=by
   have a1:c.2.2*(1+kE b)<=101*(1+kE b):=Int.mul_le_mul_of_nonneg_right (by omega) (by omega)
   have a2:101*(1+kE b)<=101*((1+b.length)*101 ^ d):=Int.mul_le_mul_of_nonneg_left (by rw[Int.add_mul];omega) (by decide)
   omega
  have e1:101*((1+(b.length:Int))*101 ^ d)=(1+b.length)*101 ^ (d+1):=by
   rw[Int.pow_succ];rw[Int.mul_comm 101,Int.mul_assoc]
  have e2:((c::(b++e::l)).length:Int)*101 ^ (d+1)=(1+b.length)*101 ^ (d+1)+l.length*101 ^ (d+1)+101 ^ (d+1):=by
   have:((c::(b++e::l)).length:Int)=(1+b.length)+l.length+1:=by simp only[zb,za];omega
   rw[this,Int.add_mul,Int.add_mul];simp
  have hp2:(1:Int)<=101 ^ (d+1):=one_le_101 _
  omega
theorem wf_small {d:Nat} {l:List Cmd} (h:Wf d l) (hd:d<=4) (hc:∀ c∈l,jK c=0) (hl:l.length<=64):0<=kE l/\kE l<=7000000000:=by
 obtain⟨h1,h2⟩:=wf_nn h hc
 refine⟨h1,?_⟩
 have hp:(101:Int) ^ d<=101 ^ 4:=by
  have:d=0\/d=1\/d=2\/d=3\/d=4:=by omega
  rcases this with rfl|rfl|rfl|rfl|rfl<;>decide
 have h3:(l.length:Int)*101 ^ d<=64*101 ^ 4:=by
  have a1:(l.length:Int)*101 ^ d<=l.length*101 ^ 4:=Int.mul_le_mul_of_nonneg_left hp (by omega)
  have a2:(l.length:Int)*101 ^ 4<=64*101 ^ 4:=Int.mul_le_mul_of_nonneg_right (by omega) (by decide)
  omega
 have:(64:Int)*101 ^ 4=6659865664:=by decide
 omega
theorem wf_at {d:Nat} {l:List Cmd} {i:Nat} (hw:Wf d (l.drop i)) (hi:i<l.length) (h0:(l.getD i z3).1=Zz) :
  ∃ (d' n:Nat),d=d'+1/\n=j5 0 i (l.drop i)/\i+1<=n/\n<l.length/\Wf d' ((l.take n).drop (i+1))/\Wf d (l.drop (n+1))/\kE (l.drop i)=(l.getD i z3).2.2*(1+kE ((l.take n).drop (i+1)))+kE (l.drop (n+1)):=by
 have hd:=dropC hi
 generalize hq:l.drop i=q at hw hd
 cases hw with
 | nil d=>cases hd
 | one h1 h2 h=>cases hd;exact absurd h0 h1
 | @rep d' c e b r h1 h2 hb hr=>
  injection hd with k1 k2
  have hm:j5 0 i (c::(b++e::r))=i+1+b.length:=by
   rw[j5,if_pos h1,wf_mat hb _ _ _ (by omega),j5,if_neg (by rw[h2];exact Ne.symm kF),if_pos h2,if_pos (by omega)]
  have hlen:l.length=i+1+b.length+1+r.length:=by
   have:=congrArg List.length hq
   simp only[zo,zb,za] at this
   omega
  have htb:(l.take (i+1+b.length)).drop (i+1)=b:=by
   rw[List.drop_take,<-k2,show i+1+b.length-(i+1)=b.length by omega,List.take_left]
  have hdr:l.drop (i+1+b.length+1)=r:=by
   rw[show i+1+b.length+1=(i+1)+(b.length+1) by omega,<-List.drop_drop,<-k2,<-List.drop_drop,List.drop_left];rfl
  refine⟨d',i+1+b.length,rfl,hm.symm,by omega,by omega,by rw[htb];exact hb,by rw[hdr];exact hr,?_⟩
  rw[htb,hdr,<-k1]
  exact wf_rep_len h1 h2 hb hr
theorem wf_next {d:Nat} {l:List Cmd} {i:Nat} (hw:Wf d (l.drop i)) (hi:i<l.length) (h0:(l.getD i z3).1≠Zz):(l.getD i z3).1≠kEnd/\Wf d (l.drop (i+1))/\kE (l.drop i)=1+kE (l.drop (i+1)):=by
 have hd:=dropC hi
 generalize hq:l.drop i=q at hw hd
 cases hw with
 | nil d=>cases hd
 | one h1 h2 h=>
  injection hd with k1 k2
  rw[<-k1,<-k2]
  exact⟨h2,h,wf_one_len h1 h2 h⟩
 | rep h1 h2 hb hr=>injection hd with k1 k2;rw[k1] at h1;exact absurd h1 h0
end Go.Lens.Tm
end
section
namespace Go.Lens
variable [Lz]
section
variable {P:Program} {Y:Tab} [qU P Y] {nb:Nat} {s:St} {dst:Option Tmp} {ty u:TypeId} {pos:String} {af:Array Edge} {gd:Option (Nat×Bool)} {t:TypeId} {x y z:Operand}
theorem B.loadE {α:Type} {enc:α->List PV} {l:List α} {z0:α} {p:PV} {h v sz n:Nat} {T:TypeId} (hx:ev1 s x=.eref h v n 0) (hm:qx s.ms h=some (.arr v sz T (l.map enc))) (ha:aggT Y t=some false) (hs:szT Y t=some 1)
  (hlt:n<l.length) (hz:enc (l.getD n z0)=[p]):Body P Y nb s ⟨dst,.load t x,ty,pos,af,gd⟩ (.pv p) [] [h]:=by
 refine .inr (Zl.of fun σ G a w hv hl I=>?_)
 have hX:=hv x (by simp[Op.operands])
 rw[hx] at hX
 have hlk:qx σ.ms h=some (.arr v sz T (l.map enc)):=by rw[hl h (.inl (by simp))];exact hm
 have hq:ZT Y t (qx σ.ms) (.eref h v n 0)=some (true,.pv p):=by
  have hg:(l.map enc).getD n []=[p]:=by
   rw[<-hz,ze,qf,ze,zm hlt];rfl
  unfold ZT
  simp only[ha,hs,hlk,qq,hg,qp,qr,zJ]
  simp[hlt]
 obtain⟨r,h1,h2⟩:=ZQ (P:=P) I.ctxS.sees hq hX
 refine⟨r,w,G,.inl ?_,qM I.ctxS h2 (fun k hk=>by simp[DV.refs] at hk)⟩
 simp only[execOp,qu,h1,qt,qw]
theorem B.slA {α:Type} {enc:α->List PV} {l:List α} {h v sz n:Nat} {k:IntKind} {m:Int} {e T:TypeId} (hx:ev1 s x=.aref h v) (hm:qx s.ms h=some (.arr v sz T (l.map enc))) (hy:ev1 s y=lit (.int k m)) (und:Y.underlying t=some (.slice e)) (hs:szT Y e=some sz)
  (hn:m=(n:Int)) (hle:n<=l.length):Body P Y nb s ⟨dst,.slice t x none (some y) none,ty,pos,af,gd⟩ (.atrunc h v n) [] [h]:=by
 refine .inr (Zl.of fun σ G a w hv hl I=>?_)
 have hX:=hv x (by simp[Op.operands])
 have hY:=hv y (by simp[Op.operands])
 rw[hx] at hX;rw[hy] at hY
 have hlk:qx σ.ms h=some (.arr v sz T (l.map enc)):=by rw[hl h (.inl (by simp))];exact hm
 have hq:kM Y t (qx σ.ms) (.aref h v) none (some (lit (.int k m))) none=some (true,.atrunc h v n):=by
  show km Y t (qx σ.ms) (.aref h v) none (some (lit (.int k m))) none=_
  unfold km lit
  subst hn
  have:decide ((0:Int)<=(n:Int)/\(n:Int)<=((l.map enc).length:Int))=true:=zl ⟨by omega,by rw[zJ];omega⟩
  simp only[und,bound,hs,hlk,qq,this,zU]
 obtain⟨r,h1,h2⟩:=sliceW_sound (P:=P) I.ctxS.sees hq hX (vlo:=none) (vhi:=some (a.eval y)) (vmx:=none) trivial hY trivial
 refine⟨r,w,G,.inl ?_,qM I.ctxS h2 (fun k hk=>?_)⟩
 ·simp only[execOp,Option.map_none,qg,qu,h1,qt,qw]
 simp only[DV.refs,zg] at hk;subst hk;exact⟨_,hlk⟩
end
theorem wk_trunc {nb:Nat} {s:St} {t h v k sz:Nat} {T0:TypeId} {es:List (List PV)} (ht:jB s.tm t=.atrunc h v k) (hm:qx s.ms h=some (.arr v sz T0 es)):Wk nb s ⟨(t,.aref h (v+1))::s.tm,(h,.arr (v+1) sz T0 (es.take k))::s.ms⟩:=by
 intro G a w I
 have hv0:qz G (G.rd w) (.atrunc h v k) (a.tmps.getD t undef):=by
  have:=I.ts t
  have e:s.vw.get t=.atrunc h v k:=ht
  rw[e] at this;exact this
 have ht2:truncU (qx s.ms) (.atrunc h v k)=some (.aref h (v+1),h,.arr (v+1) sz T0 (es.take k)):=by simp only[truncU,hm,qq]
 obtain⟨G1,S1⟩:=trunc_stepped I.mem hv0 ht2
 obtain⟨I1,Sn1⟩:=I.eff (K:=nb) S1 none (by simp)
 have I2:Inv G1 (St.vw ⟨s.tm,(h,.arr (v+1) sz T0 (es.take k))::s.ms⟩) a w:=I1
 refine⟨G1,?_,Sn1⟩
 have hts:t<a.tmps.size:=by
  rcases Nat.lt_or_ge t a.tmps.size with h|h
  ·exact h
  exact absurd (ht.symm.trans (I.size t h)) (by simp)
 refine⟨fun u=>?_,fun u hu=>?_,I2.ms,I2.fresh,I2.own,fun u k hk=>?_,I2.refsM,I2.r0,I2.r0m,I2.baseLe,I2.laid⟩
 ·show qz _ _ (jB ((t,.aref h (v+1))::s.tm) u) _
  rw[jn]
  split
  ·rename_i e;subst e;exact S1.hval
  exact I2.ts u
 ·show jB ((t,.aref h (v+1))::s.tm) u=.dead
  rw[jn,if_neg (by omega)]
  exact I2.size u hu
 have hk':k∈(jB ((t,.aref h (v+1))::s.tm) u).refs:=hk
 rw[jn] at hk'
 split at hk'
 ·simp only[DV.refs,zg] at hk'
  subst hk'
  exact⟨_,by show qx ((k,_)::s.ms) k=_;rw[qJ,if_pos rfl]⟩
 exact I2.refsT u k hk'
section
variable {P:Program} {Y:Tab} {n nb:Nat} {Q:Exit->St->Prop} {K:List Fr} {c:Code} {s:St}
theorem TK.trunc [Fc] {t h v k sz:Nat} {T0:TypeId} {α:Type} {enc:α->List PV} {l:List α} (ht:jB s.tm t=.atrunc h v k) (hm:qx s.ms h=some (.arr v sz T0 (l.map enc))) (q:TK P n nb Q c K ⟨(t,.aref h (v+1))::s.tm,(h,.arr (v+1) sz T0 ((l.take k).map enc))::s.ms⟩):TK P n nb Q c K s:=by
 refine T.weak (wk_trunc ht hm) ?_
 rw[<-List.map_take]
 exact q
end
theorem relDVs_adopt {G1 G2:Gh} {R:Rd} {h:Nat} (hq:∀ v,qz G1 R .nils v->qz G2 R (.aref h 0) v):∀ {ps:List PV} {vs:List Value},qD G1 R (ps.map .pv++[.nils]) vs->qD G2 R (ps.map .pv++[.aref h 0]) vs
 | [],vs,H=>by
  simp only[zZ,zW,qD] at H ⊢
  obtain⟨v,vs',rfl,k1,k2⟩:=H
  exact⟨v,vs',rfl,hq v k1,k2⟩
 | p::ps,vs,H=>by
  simp only[zw,zQ,qD] at H ⊢
  obtain⟨v,vs',rfl,k1,k2⟩:=H
  exact⟨v,vs',rfl,by simpa only[qz] using k1,relDVs_adopt hq k2⟩
theorem Frz.aggNil {l:List (Nat×MO)} {h sz:Nat} {T:TypeId} (ps:List PV) (hl:qx l h=none):Frz l (.agg (ps.map .pv++[.nils])) [] (.agg (ps.map .pv++[.aref h 0])) [(h,.arr 0 sz T [])]:=by
 intro G w G1 w1 r M S
 have hv:=S.hval
 simp only[qz] at hv
 obtain⟨vs,rfl,ho,hvs⟩:=hv
 refine⟨G1.turn h ⟨none,0,0,sz,0,0,true⟩,⟨⟨S.later.base,S.later.R0,S.later.R0c,S.later.R0m,S.later.os,S.later.tape,S.later.output,S.later.size,S.later.cold⟩,?_,?_,?_,?_,S.fresh,?_,?_,?_,S.newb,S.r0,S.r0m⟩⟩
 ·simp only[qz]
  refine⟨vs,rfl,ho,relDVs_adopt (G1:=G1) (fun v hv=>?_) hvs⟩
  simp only[qz] at hv
  simp only[qz,Gh.turn,qq]
  exact⟨zz _,fun _=>hv⟩
 ·intro k o hk
  simp only[zg,zu] at hk
  obtain⟨rfl,rfl⟩:=hk
  simp only[ja,Gh.turn,qq]
  exact⟨trivial,trivial,trivial,rfl,zz _,(by simp),.inl ⟨trivial,trivial⟩⟩
 ·intro k o hk
  have hne:k≠h:=by rintro rfl;rw[hl] at hk;cases hk
  have:=S.keeps k o hk
  unfold Gh.keeps at this ⊢
  simp only[Gh.turn,hne,qr];exact this
 ·intro k hk
  simp only[zw,zZ,zg] at hk
  have:=S.old k (by simp)
  simp only[Gh.turn,hk,qr];exact this
 ·intro b k hk
  rcases S.own b k hk with e|e
  ·simp at e
  exact .inr e
 ·intro k hk
  have:∀ (ps:List PV),DV.qT (ps.map .pv++[.aref h 0])=[h]:=by
   intro ps
   induction ps with
   | nil=>rfl
   | cons p ps ih=>simp only[zw,zQ,DV.qT,DV.refs,zW];exact ih
  simp only[DV.refs,this,zg] at hk
  exact .inl (by simp[hk])
 intro k o hk k2 hh
 simp only[zg,zu] at hk
 obtain⟨rfl,rfl⟩:=hk
 simp[MO.refs] at hh
theorem eqv_i {k:IntKind} {a b:Int}:eqV (.int k) (.lit (.int .i64 a)) (.lit (.int .i64 b))=some (decide (a=b)):=by
 have:(a==b)=decide (a=b):=rfl
 simp[eqV,this]
theorem eqv_s {a b:List UInt8}:eqV .string (.lit (.string (bsO a))) (.lit (.string (bsO b)))=some (decide (a=b)):=by
 have:decide (a=b)=((bsO a).toList==(bsO b).toList):=by rw[zM];simp[toList_inj,bsO_inj]
 rw[this];rfl
theorem eqv_b {p q:Bool}:eqV .bool (.lit (.bool p)) (.lit (.bool q))=some (p==q):=rfl
theorem Zk {d:TypeDesc} {ds:List TypeDesc} {x y:PV} {xs ys:List PV} {a b:Bool} (h1:eqV d x y=some a) (h2:eqVs ds xs ys=some b):eqVs (d::ds) (x::xs) (y::ys)=some (a&&b):=by simp only[eqVs,h1,h2]
theorem eqv_last {d:TypeDesc} {x y:PV} {a:Bool} (h1:eqV d x y=some a):eqVs [d] [x] [y]=some a:=by simp only[eqVs,h1,Bool.and_true]
section
variable {P:Program} {Y:Tab} [qU P Y] {nb:Nat} {s:St} {dst:Option Tmp} {ty u:TypeId} {pos:String} {af:Array Edge} {gd:Option (Nat×Bool)} {t:TypeId} {x y:Operand}
theorem B.stqN {ds:List TypeDesc} {xs ys:List PV} {r:Bool} (hx:ev1 s x=.pv (.agg xs)) (hy:ev1 s y=.pv (.agg ys)) (hf:flatEq Y t=some ds) (he:eqVs ds xs ys=some r):Body P Y nb s ⟨dst,.binOp .neq t x y u,ty,pos,af,gd⟩ (lit (.bool (!r))) [] []:=by
 refine B.bin hx hy ?_
 have h2:binQ Y .neq t (.pv (.agg xs)) (.pv (.agg ys))=some (true,lit (.bool (!r))):=by
  simp only[binQ,hf,he]
 show qE (binW Y .neq t (qx []) (ZA y) _ _)=_
 have h3:binW Y .neq t (qx []) (ZA y) (.pv (.agg xs)) (.pv (.agg ys))=some (true,lit (.bool (!r))):=by
  unfold binW
  simp only[nilQ,nilKind,samePQ,h2]
 rw[h3];rfl
end
section
variable {P:Program} {n nb:Nat} {Q:Exit->St->Prop} {c:Code} {s:St}
theorem pk_goto [Fc] (hq:∀ l s,¬Q (.goto l) s):∀ {K:List Fr} {l:Nat} {s:St},¬PK P n nb Q K (.goto l) s
 | [],l,s,h=>hq l s h
 | .seq y::K,l,s,h=>pk_goto hq (K:=K) h
 | .blk id::K,l,s,h=>pk_goto hq (K:=K) h
 | .lp C::K,l,s,h=>pk_goto hq (K:=K) h
theorem TK.scope {K:List Fr} (hq:∀ l s,¬Q (.goto l) s) (h:TK P n nb Q c K s):TK P n nb Q (.scope c) K s:=by
 intro G a w R I hn hK
 refine wpIn_wide.2 (wp_scope_straight (wpIn_wide.1 (h G a w _ I hn ?_)))
 intro e s' G1 a1 w1 q I1 Sn1 hn1 hd1
 have:=hK e s' G1 a1 w1 q I1 Sn1 hn1 hd1
 cases e with
 | goto l=>exact absurd q (pk_goto hq)
 | _=>exact this
theorem TK.label [Fc] {K:List Fr} {l:Nat} (h:PK P n nb Q K .normal s):TK P n nb Q (.label l) K s:=by
 intro G a w R I hn hK
 exact wpIn_label (hK _ s G a w h I (Since.refl _ _ _ _) hn (Mks.of rfl))
end
theorem wk_boxpv {nb:Nat} {s:St} {h:Nat} {T0:TypeId} {ds:List DV} {cs:List PV} (hm:qx s.ms h=some (.box T0 ds)) (hp:pvOfL (qx s.ms) ds=some cs):Wk nb s ⟨s.tm,(h,.box T0 (cs.map .pv))::s.ms⟩:=by
 intro G a w I
 have M:=I.mem
 have hb:=M.ms _ _ hm
 have S1:Stepped G w (qx s.ms) .dead [(h,.box T0 (cs.map .pv))] G w undef:=by
  refine⟨Later.refl _ _,by simp only[qz],?_,fun _ _ _=>.inl rfl,fun _ _=>⟨rfl,fun _ hb=>⟨hb,rfl⟩⟩,M.fresh,fun _ _ hb=>.inr hb,fun h hh=>by simp[DV.refs] at hh,?_,fun _ _ hb=>.inl hb,fun _ _ _ _ h=>.inl h,fun _ _ _ h=>.inl h⟩
  ·intro k o hk
   simp only[zg,zu] at hk
   obtain⟨rfl,rfl⟩:=hk
   simp only[ja] at hb ⊢
   obtain⟨e1,b,c,e2,e3,e4,e5,e6⟩:=hb
   exact⟨e1,b,c,e2,e3,e4,e5,relDVs_pv (Zf M.ms hp e6)⟩
  intro k o hk h' hh
  simp only[zg,zu] at hk
  obtain⟨rfl,rfl⟩:=hk
  simp only[MO.refs,refsL_pv] at hh
  cases hh
 obtain⟨I1,Sn1⟩:=I.eff (K:=nb) S1 none (by simp)
 exact⟨G,I1,Sn1⟩
theorem wk_frz0 {nb:Nat} {s:St} {h:Nat} {o:MO} (hf:kr (qx s.ms) h=some o):Wk nb s ⟨s.tm,(h,o)::s.ms⟩:=by
 intro G a w I
 obtain⟨G1,S1⟩:=frz_stepped I.mem hf
 obtain⟨I1,Sn1⟩:=I.eff (K:=nb) S1 none (by simp)
 exact⟨G1,I1,Sn1⟩
theorem TK.frzC [Fc] {P:Program} {n nb:Nat} {Q:Exit->St->Prop} {K:List Fr} {c:Code} {s:St} {h h2 v sz:Nat} {T0 T1:TypeId} {ds:List DV} {cs:List PV} {es:List (List PV)} (hm2:qx s.ms h2=some (.arr v sz T1 es)) (hm:qx ((h2,.farr v es)::s.ms) h=some (.box T0 ds))
  (hp:pvOfL (qx ((h2,.farr v es)::s.ms)) ds=some cs) (k:TK P n nb Q c K ⟨s.tm,(h,.box T0 (cs.map .pv))::(h2,.farr v es)::s.ms⟩):TK P n nb Q c K s:=
 T.weak (wk_frz0 (by unfold kr;rw[hm2])) (T.weak (wk_boxpv hm hp) k)
end Go.Lens
end
section
namespace Go.Lens.Tm
open Go.Lens.Tb Go.Proofs
theorem eqf {b:Bool} (h:(b==false)=true):b=false:=by cases b<;>simp_all
theorem eqt {b:Bool} (h:(b==true)=true):b=true:=by cases b<;>simp_all
theorem lenP_nil:kE []=0:=rfl
theorem words_zero {o:List UInt8} (h:jV o=0):o≠kR/\o≠kWait/\o≠Zz/\o≠kEnd:=by
 unfold jV at h
 refine⟨fun e=>?_,fun e=>?_,fun e=>?_,fun e=>?_⟩<;>(rw[e] at h;exact absurd h (by decide))
theorem words_some {o:List UInt8} (h:jV o≠0):o=kR\/o=kWait\/o=Zz\/o=kEnd:=by
 unfold jV at h
 by_cases h1:o=kR
 ·exact .inl h1
 by_cases h2:o=kWait
 ·exact .inr (.inl h2)
 by_cases h3:o=Zz
 ·exact .inr (.inr (.inl h3))
 by_cases h4:o=kEnd
 ·exact .inr (.inr (.inr h4))
 rw[if_neg h1,if_neg h2,if_neg h3,if_neg h4] at h;exact absurd rfl h
theorem chk_kind {c:Cmd} (h:jV c.1=0):jK c=13:=by
 obtain⟨h1,h2,h3,h4⟩:=words_zero h
 unfold jK
 rw[if_neg h1,if_neg h4,if_neg h2,if_neg h3]
theorem kA {b:Bool} {e x:Int} (he:e≠0):qP [qF b e,x]=bif b then e else qP [x]:=by
 cases b
 ·rfl
 simp[qF,qP,he]
theorem ZS (x:Int):qP [x]=x:=by
 by_cases h:x=0<;>simp[qP,h]
theorem chk_name {c:Cmd} (h:(bif (decide (c.1=[97,99,116])) then (!(qY (bsO c.2.1))) else false)=true):jK c=8:=by
 rw[js,zj] at h
 unfold jK
 rw[if_pos (of_decide_eq_true h.1),kA (by decide),h.2];rfl
theorem chk_form {c:Cmd} (h0:jV c.1≠0) (h:(bif (decide (c.1≠[97,99,116])) then (decide (c.2.1≠[])) else false)=true):jK c=1:=by
 rw[js,zj] at h
 have h1:c.1≠kR:=of_decide_eq_true h.1
 unfold jK
 rw[if_neg h1]
 rcases words_some h0 with e|e|e|e
 ·exact absurd e h1
 ·rw[e,if_neg (by decide),if_pos rfl,kA (by decide),h.2];rfl
 ·rw[e,if_neg (by decide),if_neg (by decide),if_pos rfl,kA (by decide),h.2];rfl
 rw[e,if_pos rfl,kA (by decide),h.2];rfl
theorem chk_rest {c:Cmd} (h0:jV c.1≠0) (h1:(bif (decide (c.1=[97,99,116])) then (!(qY (bsO c.2.1))) else false)=false) (h2:(bif (decide (c.1≠[97,99,116])) then (decide (c.2.1≠[])) else false)=false) :
  jK c=if c.1=kWait then qG c.2.2 1 100000 else if c.1=Zz then qG c.2.2 1 100 else qG c.2.2 0 0:=by
 unfold jK
 rcases words_some h0 with e|e|e|e
 ·rw[e] at h1 ⊢
  rw[zl rfl,cond_true] at h1
  rw[if_pos rfl,if_neg (by decide),if_neg (by decide),kA (by decide),h1]
  exact ZS _
 ·rw[e] at h2 ⊢
  rw[zl (by decide),cond_true] at h2
  rw[if_neg (by decide),if_neg (by decide),if_pos rfl,kA (by decide),h2]
  exact ZS _
 ·rw[e] at h2 ⊢
  rw[zl (by decide),cond_true] at h2
  rw[if_neg (by decide),if_neg (by decide),if_neg (by decide),if_pos rfl,if_neg (by decide),if_pos rfl,kA (by decide),h2]
  exact ZS _
 rw[e] at h2 ⊢
 rw[zl (by decide),cond_true] at h2
 rw[if_neg (by decide),if_pos rfl,if_neg (by decide),if_neg (by decide),kA (by decide),h2]
 exact ZS _
theorem with_out {n a b:Int} (h:ZX n a b=true):qG n a b=3:=by unfold qG qF;rw[h];rfl
theorem with_in {n a b:Int} (h:ZX n a b=false):qG n a b=0:=by unfold qG qF;rw[h];rfl
theorem chkS_many {l:List Cmd} (h:64<((l.length:Nat):Int)):chkS l=5:=by unfold chkS;exact if_pos (by omega)
theorem chkS_bad {l:List Cmd} {e:Int} (h:¬64<((l.length:Nat):Int)) (hb:badC l=e) (he:e≠0):chkS l=e:=by
 unfold chkS
 rw[if_neg (by omega),if_pos (by rw[hb];exact he),hb]
theorem chkS_dep {l:List Cmd} {e:Int} (h:¬64<((l.length:Nat):Int)) (hb:badC l=0) (hd:depC 0 l=e) (he:e≠0):chkS l=e:=by
 unfold chkS
 rw[if_neg (by omega),if_neg (by rw[hb];simp),if_pos (by rw[hd];exact he),hd]
theorem chkS_len {l:List Cmd} (h:¬64<((l.length:Nat):Int)) (hb:badC l=0) (hd:depC 0 l=0):chkS l=qF (decide (10000<kE l)) 22:=by
 unfold chkS
 rw[if_neg (by omega),if_neg (by rw[hb];simp),if_neg (by rw[hd];simp)]
theorem chkS_ok {l:List Cmd} (h:chkS l=0):l.length<=64/\(∀ c∈l,jK c=0)/\depC 0 l=0/\kE l<=10000:=by
 unfold chkS at h
 split at h
 ·cases h
 split at h
 ·rename_i h2;exact absurd h h2
 split at h
 ·rename_i h3;exact absurd h h3
 rename_i h1 h2 h3
 refine⟨by omega,badC_all (zi.1 h2),zi.1 h3,?_⟩
 unfold qF at h
 cases hq:decide (10000<kE l) with
 | true=>rw[hq] at h;cases h
 | false=>have:=of_decide_eq_false hq;omega
theorem bad_end {l:List Cmd} {k:Nat} (h:¬k<l.length):badC (l.drop k)=0:=by rw[zN (by omega)];rfl
theorem dep_nil {l:List Cmd} {k d:Nat} (h:¬k<l.length):depC d (l.drop k)=if 0<d then 2 else 0:=by rw[zN (by omega)];rfl
def LnI (l:List Cmd) (k:Nat) (s:Int) (st:List (Int×Int)):Prop:=(Zb s st (l.drop k)=kE l/\depC st.length (l.drop k)=0/\st.length<=k)/\0<=s/\∀ p∈st,0<=p.1/\1<=p.2
theorem ln_init {l:List Cmd} (h:depC 0 l=0):LnI l 0 0 []:=⟨⟨rfl,h,zz _⟩,Int.le_refl _,fun p hp=>by cases hp⟩
section
variable {l:List Cmd} {k:Nat} {s:Int} {st:List (Int×Int)}
theorem ln_le (h:LnI l k s st) (hc:∀ c∈l,jK c=0):s<=kE l/\∀ p∈st,p.1<=kE l:=by
 obtain⟨⟨h1,h2,_⟩,h3,h4⟩:=h
 rw[<-h1]
 exact len_ge h2 (fun c hx=>hc c (zt hx)) h3 h4
theorem ln_rep (h:LnI l k s st) (hc:∀ c∈l,jK c=0) (hk:k<l.length) (h0:(l.getD k z3).1=Zz):LnI l (k+1) 1 ((s,(l.getD k z3).2.2)::st):=by
 obtain⟨⟨h1,h2,h5⟩,h3,h4⟩:=h
 rw[dep_rep hk h0] at h2
 have hr:=cnt_rep (hc _ (getD_mem (z:=z3) hk)) h0
 split at h2
 ·cases h2
 refine⟨⟨(len_rep hk h0).symm.trans h1,h2,by simp only[zb];omega⟩,by decide,fun p hp=>?_⟩
 rcases zF.1 hp with rfl|hp
 ·exact⟨h3,hr.1⟩
 exact h4 p hp
theorem ln_some (h:LnI l k s st) (hk:k<l.length) (h0:(l.getD k z3).1=kEnd):∃ p st2,st=p::st2:=by
 obtain⟨⟨_,h2,_⟩,_,_⟩:=h
 rw[dep_end hk h0] at h2
 cases st with
 | nil=>cases h2
 | cons p st=>exact⟨p,st,rfl⟩
theorem ln_pop {p:Int×Int} (h:LnI l k s (p::st)) (hk:k<l.length) (h0:(l.getD k z3).1=kEnd):LnI l (k+1) (p.1+p.2*s) st:=by
 obtain⟨⟨h1,h2,h5⟩,h3,h4⟩:=h
 rw[dep_end hk h0] at h2
 have hp:=h4 p (qm ..)
 refine⟨⟨(len_end hk h0).symm.trans h1,?_,by simp only[zb] at h5;omega⟩,?_,fun q hq=>h4 q (zO _ hq)⟩
 ·simpa using h2
 have:=Int.mul_nonneg (show 0<=p.2 by omega) h3
 omega
theorem ln_one (h:LnI l k s st) (hk:k<l.length) (h0:(l.getD k z3).1≠Zz) (h6:(l.getD k z3).1≠kEnd):LnI l (k+1) (s+1) st:=by
 obtain⟨⟨h1,h2,h5⟩,h3,h4⟩:=h
 rw[dep_one hk h0 h6] at h2
 exact⟨⟨(len_one hk h0 h6).symm.trans h1,h2,by omega⟩,by omega,h4⟩
theorem ln_end (h:LnI l k s st) (hk:¬k<l.length):(smL st s).getD 0 0=kE l:=by
 obtain⟨⟨h1,h2,_⟩,_,_⟩:=h
 rw[dep_nil hk] at h2
 have:st=[]:=by
  split at h2
  ·cases h2
  exact zL (by omega)
 subst this
 rw[zN (by omega)] at h1
 exact h1
end
def unrGo:List Cmd->List (List Cmd×Nat)->List Cmd->List Cmd
 | a,_,[]=>a
 | a,st,c::l=>if c.1=Zz then unrGo [] ((a,c.2.2.toNat)::st) l else if c.1=kEnd then (match st with
   | []=>a
   | p::st=>unrGo (p.1++(List.replicate p.2 a).flatten) st l) else unrGo (a++[c]) st l
theorem Za (a:List Cmd) (st:List (List Cmd×Nat)) (c:Cmd) (l:List Cmd):unrGo a st (c::l)=if c.1=Zz then unrGo [] ((a,c.2.2.toNat)::st) l else if c.1=kEnd then (match st with
   | []=>a
   | p::st=>unrGo (p.1++(List.replicate p.2 a).flatten) st l) else unrGo (a++[c]) st l:=by cases st<;>rfl
def q8 (l:List Cmd):List Cmd:=unrGo [] [] l
def tms (n:Nat) (a:List Cmd):List Cmd:=(List.replicate n a).flatten
theorem tms_zero (a:List Cmd):tms 0 a=[]:=rfl
theorem tms_succ (n:Nat) (a:List Cmd):tms (n+1) a=tms n a++a:=by
 unfold tms
 rw[List.replicate_succ',List.flatten_append];simp
theorem wf_unr {d:Nat} {l:List Cmd} (h:Wf d l):∀ (a:List Cmd) (st:List (List Cmd×Nat)) (r:List Cmd),unrGo a st (l++r)=unrGo (a++q8 l) st r:=by
 induction h with
 | nil d=>intro a st r;rw[zW];simp[q8,unrGo]
 | @one d c l h1 h2 h ih=>
  intro a st r
  have e:q8 (c::l)=[c]++q8 l:=by
   have:=ih [c] [] []
   rw[zS] at this
   rw[q8,Za,if_neg h1,if_neg h2,zW,this];rfl
  rw[zQ,Za,if_neg h1,if_neg h2,ih,e,z7]
 | @rep d c e b l h1 h2 hb hl ihb ihl=>
  have key:∀ (a:List Cmd) (st:List (List Cmd×Nat)) (r:List Cmd),unrGo a st ((c::(b++e::l))++r)=unrGo (a++(tms c.2.2.toNat (q8 b)++q8 l)) st r:=by
   intro a st r
   rw[zQ,Za,if_pos h1,z7,ihb,zQ,Za,if_neg (by rw[h2];exact Ne.symm kF),if_pos h2]
   show unrGo (a++tms c.2.2.toNat ([]++q8 b)) st (l++r)=_
   rw[zW,ihl,z7]
  have e0:q8 (c::(b++e::l))=tms c.2.2.toNat (q8 b)++q8 l:=by
   have:=key [] [] []
   rw[zS,zW] at this
   exact this
  intro a st r
  rw[key,e0]
theorem wf_one_unr {d:Nat} {c:Cmd} {l:List Cmd} (h1:c.1≠Zz) (h2:c.1≠kEnd) (h:Wf d l):q8 (c::l)=c::q8 l:=by
 have:=wf_unr h [c] [] []
 rw[zS] at this
 rw[q8,Za,if_neg h1,if_neg h2,zW,this];rfl
theorem wf_rep_unr {d:Nat} {c e:Cmd} {b l:List Cmd} (h1:c.1=Zz) (h2:e.1=kEnd) (hb:Wf d b) (hl:Wf (d+1) l):q8 (c::(b++e::l))=tms c.2.2.toNat (q8 b)++q8 l:=by
 have h3:=wf_unr hl (tms c.2.2.toNat (q8 b)) [] []
 rw[zS] at h3
 rw[q8,Za,if_pos h1,wf_unr hb,Za,if_neg (by rw[h2];exact Ne.symm kF),if_pos h2]
 show unrGo ([]++tms c.2.2.toNat ([]++q8 b)) [] l=_
 rw[zW,zW,h3];rfl
theorem unrP_nil:q8 []=[]:=rfl
theorem tms_len (n:Nat) (a:List Cmd):(tms n a).length=n*a.length:=by
 induction n with
 | zero=>simp[tms]
 | succ n ih=>rw[tms_succ,za,ih,Nat.add_mul];omega
theorem tms_mem {n:Nat} {a:List Cmd} {c:Cmd} (h:c∈tms n a):c∈a:=by
 unfold tms at h
 obtain⟨l,hl,hc⟩:=List.mem_flatten.1 h
 rw[(List.mem_replicate.1 hl).2] at hc
 exact hc
theorem wf_unr_len {d:Nat} {l:List Cmd} (h:Wf d l) (hc:∀ c∈l,jK c=0):((q8 l).length:Int)<=kE l/\∀ c∈q8 l,c∈l/\c.1≠Zz/\c.1≠kEnd:=by
 induction h with
 | nil d=>exact⟨by simp[unrP_nil,lenP_nil],fun c h=>by cases h⟩
 | @one d c l h1 h2 h ih=>
  have:=ih fun x hx=>hc x (zO _ hx)
  rw[wf_one_len h1 h2 h,wf_one_unr h1 h2 h]
  refine⟨by simp only[zb];omega,fun x hx=>?_⟩
  rcases zF.1 hx with rfl|hx
  ·exact⟨qm ..,h1,h2⟩
  have k:=this.2 x hx;exact⟨zO _ k.1,k.2⟩
 | @rep d c e b l h1 h2 hb hl ihb ihl=>
  have kb:=ihb fun x hx=>hc x (by simp[hx])
  have kl:=ihl fun x hx=>hc x (by simp[hx])
  have hr:=cnt_rep (hc c (qm ..)) h1
  rw[wf_rep_len h1 h2 hb hl,wf_rep_unr h1 h2 hb hl]
  refine⟨?_,fun x hx=>?_⟩
  ·rw[za,tms_len]
   have h3:c.2.2*((q8 b).length:Int)<=c.2.2*(1+kE b):=Int.mul_le_mul_of_nonneg_left (by omega) (by omega)
   have h4:((c.2.2.toNat*(q8 b).length:Nat):Int)=c.2.2*((q8 b).length:Int):=by
    rw[Int.natCast_mul,Int.toNat_of_nonneg (by omega)]
   omega
  rcases zI.1 hx with hx|hx
  ·have k:=kb.2 x (tms_mem hx);exact⟨by simp[k.1],k.2⟩
  have k:=kl.2 x hx;exact⟨by simp[k.1],k.2⟩
theorem wf_at_unr {d:Nat} {l:List Cmd} {i:Nat} (hw:Wf d (l.drop i)) (hi:i<l.length) (h0:(l.getD i z3).1=Zz) :
  q8 (l.drop i)=tms (l.getD i z3).2.2.toNat (q8 ((l.take (j5 0 i (l.drop i))).drop (i+1)))++q8 (l.drop (j5 0 i (l.drop i)+1)):=by
 have hd:=dropC hi
 generalize hq:l.drop i=q at hw hd
 cases hw with
 | nil d=>cases hd
 | one h1 h2 h=>cases hd;exact absurd h0 h1
 | @rep d' c e b r h1 h2 hb hr=>
  injection hd with k1 k2
  have hm:j5 0 i (c::(b++e::r))=i+1+b.length:=by
   rw[j5,if_pos h1,wf_mat hb _ _ _ (by omega),j5,if_neg (by rw[h2];exact Ne.symm kF),if_pos h2,if_pos (by omega)]
  have htb:(l.take (i+1+b.length)).drop (i+1)=b:=by
   rw[List.drop_take,<-k2,show i+1+b.length-(i+1)=b.length by omega,List.take_left]
  have hdr:l.drop (i+1+b.length+1)=r:=by
   rw[show i+1+b.length+1=(i+1)+(b.length+1) by omega,<-List.drop_drop,<-k2,<-List.drop_drop,List.drop_left];rfl
  rw[hm,htb,hdr,<-k1]
  exact wf_rep_unr h1 h2 hb hr
theorem wf_next_unr {d:Nat} {l:List Cmd} {i:Nat} (hw:Wf d (l.drop i)) (hi:i<l.length) (h0:(l.getD i z3).1≠Zz):q8 (l.drop i)=l.getD i z3::q8 (l.drop (i+1)):=by
 have hd:=dropC hi
 generalize hq:l.drop i=q at hw hd
 cases hw with
 | nil d=>cases hd
 | one h1 h2 h=>
  injection hd with k1 k2
  rw[<-k1,<-k2]
  exact wf_one_unr h1 h2 h
 | rep h1 h2 hb hr=>injection hd with k1 k2;rw[k1] at h1;exact absurd h1 h0
abbrev LSt:=List UInt8×Int×Bool×Bool
abbrev gS (s:LSt):PV:=.agg [pS (bsO s.1),pI s.2.1,pB s.2.2.1,pB s.2.2.2]
abbrev mIdle:List UInt8:=[105,100,108,101]
abbrev mOpen:List UInt8:=[111,112,101,110]
abbrev jo:List UInt8:=[99,108,111,115,101,100]
abbrev mSafe:List UInt8:=[115,97,102,101]
def stPV (s:LSt):List PV:=[.lit (.string (bsO s.1)),.lit (.int .i64 s.2.1),.lit (.bool s.2.2.1),.lit (.bool s.2.2.2)]
def knownB (m:List UInt8):Bool:=decide (m=mIdle)||(decide (m=mOpen)||(decide (m=jo)||decide (m=mSafe)))
def wrongB (s:LSt):Bool:=((decide (0<s.2.1)&&decide (s.1≠jo))||(s.2.2.1&&decide (s.1=jo)))||(s.2.2.2&&(decide (s.1=mOpen)||decide (s.1=jo)))
def chkSt (s:LSt):Int:=qP [qF (!knownB s.1) 13,qG s.2.1 0 2,qF (wrongB s) 18]
abbrev aStart:List UInt8:=[115,116,97,114,116]
abbrev aClose:List UInt8:=[99,108,111,115,101]
abbrev aOpen:List UInt8:=[111,112,101,110]
abbrev aStop:List UInt8:=[115,116,111,112]
abbrev aSat:List UInt8:=[115,97,116,117,114,97,116,101]
abbrev aClear:List UInt8:=[99,108,101,97,114]
abbrev aLose:List UInt8:=[108,111,115,101]
abbrev aFind:List UInt8:=[102,105,110,100]
abbrev aGust:List UInt8:=[103,117,115,116]
abbrev aCalm:List UInt8:=[99,97,108,109]
abbrev aReset:List UInt8:=[114,101,115,101,116]
def Zv:List (List UInt8):=[aStart,aClose,aOpen,aStop,aSat,aClear,aLose,aFind,aGust,aCalm,aReset]
def toM (s:LSt) (m:List UInt8):LSt:=(m,if s.1=m then s.2.1 else 0,s.2.2.1,s.2.2.2)
def permA (s:LSt) (a:List UInt8):Bool:=
 if a=aStart then decide (s.1=mIdle)&&!s.2.2.2
 else if a=aClose then decide (s.1=mOpen)&&!s.2.2.1
 else if a=aOpen then decide (s.1=jo)
 else if a=aStop then decide (s.1=mOpen)||decide (s.1=jo)
 else if a=aSat then decide (s.1=jo)
 else if a=aClear then decide (s.1=jo)
 else if a=aLose then !s.2.2.1
 else if a=aFind then s.2.2.1
 else if a=aGust then !s.2.2.2
 else if a=aCalm then s.2.2.2
 else decide (s.1=mSafe)&&!s.2.2.2
def effA (s:LSt) (a:List UInt8):LSt:=
 if a=aStart then toM s mOpen
 else if a=aClose then toM s jo
 else if a=aOpen then toM s mOpen
 else if a=aStop then toM s mIdle
 else if a=aSat then (if s.2.1+1=3 then toM s mSafe else (s.1,s.2.1+1,s.2.2.1,s.2.2.2))
 else if a=aClear then (s.1,0,s.2.2.1,s.2.2.2)
 else if a=aLose then (if s.1=jo then toM (s.1,s.2.1,true,s.2.2.2) mSafe else (s.1,s.2.1,true,s.2.2.2))
 else if a=aFind then (s.1,s.2.1,false,s.2.2.2)
 else if a=aGust then (if s.1=mOpen\/s.1=jo then toM (s.1,s.2.1,s.2.2.1,true) mSafe else (s.1,s.2.1,s.2.2.1,true))
 else if a=aCalm then (s.1,s.2.1,s.2.2.1,false)
 else toM s mIdle
def zSt:LSt:=([],0,false,false)
def actP (s:LSt) (a:List UInt8):LSt×Int:=if a∈Zv then (if permA s a then (effA s a,0) else (zSt,18)) else (zSt,13)
def sts:List LSt:=
 [(mIdle,0,false,false),(mIdle,0,false,true),(mIdle,0,true,false),(mIdle,0,true,true),(mOpen,0,false,false),(mOpen,0,true,false),(jo,0,false,false),(jo,1,false,false),(jo,2,false,false),
  (mSafe,0,false,false),(mSafe,0,false,true),(mSafe,0,true,false),(mSafe,0,true,true)]
theorem st_chk:∀ s∈sts,chkSt s=0:=by decide
theorem act_stays:∀ s∈sts,∀ a∈Zv,(actP s a).2=0->(actP s a).1∈sts:=by decide
theorem act_valid {s:LSt} {a:List UInt8} (hs:s∈sts) (h:(actP s a).2=0):(actP s a).1∈sts:=by
 by_cases ha:a∈Zv
 ·exact act_stays s hs a ha h
 rw[actP,if_neg ha] at h;cases h
abbrev Stp:=Int×List UInt8
def eP (p:Stp):List PV:=[.lit (.int .i64 (Prod.fst p)),.lit (.string (bsO (Prod.snd p)))]
abbrev Mc:=LSt×Int×List Stp
abbrev aM (m:Mc):MO:=.arr m.2.2.length 2 164 (List.map eP m.2.2)
end Go.Lens.Tm
end
section
namespace Go.Lens
variable [Lz]
theorem wrap_u8 {n:Int} (h0:0<=n) (h1:n<256):IntKind.wrap .u8 n=n:=by
 have e:n%(2 ^ 8:Int)=n:=Int.emod_eq_of_lt h0 (by omega)
 have hb:IntKind.u8.bits=8:=rfl
 have hs:IntKind.u8.signed=false:=rfl
 unfold IntKind.wrap
 simp only[hb,hs,e,Bool.false_and,qp,qr]
section
variable {P:Program} {Y:Tab} [qU P Y] {nb:Nat} {s:St} {dst:Option Tmp} {ty u:TypeId} {pos:String} {af:Array Edge} {gd:Option (Nat×Bool)} {t:TypeId} {x y:Operand}
theorem B.subB {a b:Int} (hx:ev1 s x=lit (.int .u8 a)) (hy:ev1 s y=lit (.int .u8 b)) (h:0<=a-b/\a-b<256):Body P Y nb s ⟨dst,.binOp .sub t x y u,ty,pos,af,gd⟩ (lit (.int .u8 (a-b))) [] []:=by
 refine B.bin hx hy ?_
 show qE (some (true,lit (.int .u8 (IntKind.wrap .u8 (a-b)))))=_
 rw[wrap_u8 h.1 h.2];rfl
theorem B.ieqN {T:TypeId} {p:PV} {ms:Array (String×TypeId)} (hx:ev1 s x=.pv (.iface T p)) (und:Y.underlying t=some (.interface ms)):Body P Y nb s ⟨dst,.binOp .eql t x (.const .nilIface) u,ty,pos,af,gd⟩ (lit (.bool false)) [] []:=by
 refine .inr (Zl.of fun σ G a w hv hl I=>?_)
 have hX:=hv x (by simp[Op.operands])
 rw[hx] at hX
 simp only[qz,qN] at hX
 obtain⟨v,e,_⟩:=hX
 have ht:P.underlying t=some (.interface ms):=qU.und P und
 refine⟨.bool false,w,G,.inl ?_,qM I.ctxS (qO rfl) (fun k hk=>by simp[lit,DV.refs] at hk)⟩
 have h1:(binOp .eql t (.iface T v) .nilIface).run P w=.ok (.bool false) w:=by
  have h:∀ d:Nat,(Op.equalIn (d+2) t (.iface T v) .nilIface).run P w=.ok false w:=fun d=>by
   simp[Op.equalIn,run_underlying ht]
  simp only[binOp]
  simp[Op.equal,Op.maxDepth,h 9998]
 have hy:a.eval (.const .nilIface)=.nilIface:=rfl
 have hg:eqGuard .eql t x (.const .nilIface) (.iface T v) .nilIface=(Pure.pure ():Sem Unit):=by simp[eqGuard]
 simp only[execOp,e,hy,hg,qu,qw,qt,h1]
theorem B.ieqE {ms:Array (String×TypeId)} (hx:ev1 s x=lit .nilIface) (und:Y.underlying t=some (.interface ms)):Body P Y nb s ⟨dst,.binOp .eql t x (.const .nilIface) u,ty,pos,af,gd⟩ (lit (.bool true)) [] []:=by
 refine .inr (Zl.of fun σ G a w hv hl I=>?_)
 have hX:=hv x (by simp[Op.operands])
 rw[hx] at hX
 have e:=(qC hX).1
 have ht:P.underlying t=some (.interface ms):=qU.und P und
 refine⟨.bool true,w,G,.inl ?_,qM I.ctxS (qO rfl) (fun k hk=>by simp[lit,DV.refs] at hk)⟩
 have h1:(binOp .eql t .nilIface .nilIface).run P w=.ok (.bool true) w:=by
  have h:∀ d:Nat,(Op.equalIn (d+2) t .nilIface .nilIface).run P w=.ok true w:=fun d=>by
   simp[Op.equalIn,run_underlying ht]
  simp only[binOp]
  simp[Op.equal,Op.maxDepth,h 9998]
 have hy:a.eval (.const .nilIface)=.nilIface:=rfl
 have hg:eqGuard .eql t x (.const .nilIface) .nilIface .nilIface=(Pure.pure ():Sem Unit):=by simp[eqGuard]
 simp only[execOp,e,hy,hg,qu,qw,qt,h1]
theorem B.lenA {α:Type} {enc:α->List PV} {l:List α} {h v sz:Nat} {at' e T:TypeId} (hx:ev1 s x=.aref h v) (hm:qx s.ms h=some (.arr v sz T (l.map enc))) (hu:Y.underlying at'=some (.slice e)):Body P Y nb s ⟨dst,.call ⟨.builtin .len,⟨[x]⟩,⟨[at']⟩⟩,ty,pos,af,gd⟩ (lit (.int .i64 (l.length:Int))) [] [h]:=by
 refine .inr (Zl.of fun σ G a w hv hl I=>?_)
 have hX:=hv x (by simp[Op.operands,Call.operands])
 rw[hx] at hX
 have hlk:qx σ.ms h=some (.arr v sz T (l.map enc)):=by rw[hl h (.inl (by simp))];exact hm
 have hq:lenQ Y at' (qx σ.ms) (.aref h v)=some (true,lit (.int .i64 (l.length:Int))):=by
  unfold lenQ
  rw[hu]
  simp[lenOf,hlk]
 obtain⟨r,h1,h2⟩:=lenQ_sound (P:=P) (ty:=ty) I.ctxS.sees hq hX
 refine⟨r,w,G,.inl ?_,qM I.ctxS h2 (fun k hk=>by simp[lit,DV.refs] at hk)⟩
 simp only[execOp,resolve,qu,qw,qt,invoke,builtin,List.map_toArray,zw,zZ]
 rw[h1];rfl
theorem B.slTD {α:Type} {enc:α->List PV} {l:List α} {lo hi:Operand} {k k2:IntKind} {n m:Int} {i j:Nat} {e:TypeId} {sz:Nat} (hx:ev1 s x=.pv (.slice (l.map enc))) (hy:ev1 s lo=lit (.int k n)) (hz:ev1 s hi=lit (.int k2 m)) (hu:Y.underlying t=some (.slice e)) (hs:szT Y e=some sz) (hsz:∀ a,(enc a).length=sz) (hn:n=(i:Int)) (hm:m=(j:Int)) (hi1:i<=j) (hj:j<=l.length) :
 Body P Y nb s ⟨dst,.slice t x (some lo) (some hi) none,ty,pos,af,gd⟩ (.pv (.slice (((l.take j).drop i).map enc))) [] []:=by
 refine B.pure (lo:=0) (nm:=0) (j3 P) ?_ ?_
 ·intro z hz'
  have:z=x\/z=lo\/z=hi:=by simpa [Op.operands] using hz'
  rcases this with rfl|rfl|rfl
  ·rw[hx];rfl
  ·rw[hy];rfl
  rw[hz];rfl
 have e1:evU (tmpsOf [x,lo,hi]) s x=_:=(qV (by simp)).trans hx
 have e2:evU (tmpsOf [x,lo,hi]) s lo=_:=(qV (by simp)).trans hy
 have e3:evU (tmpsOf [x,lo,hi]) s hi=_:=(qV (by simp)).trans hz
 have hv:effV Y 0 dst (.slice t x (some lo) (some hi) none) (evU (tmpsOf [x,lo,hi]) s) (qx [])=ZF (kM Y t (qx []) (evU (tmpsOf [x,lo,hi]) s x) (some (evU (tmpsOf [x,lo,hi]) s lo)) (some (evU (tmpsOf [x,lo,hi]) s hi)) none):=by
  show (match frzU (qx []) (refsOf (evU (tmpsOf [x,lo,hi]) s) [x]) with
   | []=>stepV Y 0 dst (.slice t x (some lo) (some hi) none) (evU (tmpsOf [x,lo,hi]) s) (qx []) (qx [])
   | fz=>match stepV Y 0 dst (.slice t x (some lo) (some hi) none) (evU (tmpsOf [x,lo,hi]) s) (upd fz (qx [])) (upd fz (qx [])) with
    | some ⟨s,v,ms⟩=>some ⟨s,v,mrg ms fz⟩
    | none=>none)=_
  have hrf:refsOf (evU (tmpsOf [x,lo,hi]) s) [x]=[]:=by simp[refsOf,e1,DV.refs]
  rw[hrf];rfl
 show (match effV Y 0 dst (.slice t x (some lo) (some hi) none) (evU (tmpsOf [x,lo,hi]) s) (qx []) with|some ⟨true,v,m⟩=>some (v,m)|_=>none)=_
 rw[hv,e1,e2,e3]
 have hal:jD sz (l.map enc)=true:=by
  unfold jD
  rw[zp]
  intro b hb
  obtain⟨c,_,rfl⟩:=zE.1 hb
  simpa using hsz c
 have hq:kM Y t (qx []) (.pv (.slice (l.map enc))) (some (lit (.int k n))) (some (lit (.int k2 m))) none=some (true,.pv (.slice (((l.take j).drop i).map enc))):=by
  show km Y t (qx []) (.pv (.slice (l.map enc))) (some (lit (.int k n))) (some (lit (.int k2 m))) none=_
  unfold km lit
  simp only[hu,hs,bound,zP,hal,Bool.and_true]
  subst hn hm
  have:decide ((0:Int)<=(i:Int)/\(i:Int)<=(j:Int)/\(j:Int)<=((l.map enc).length:Int))=true:=zl ⟨by omega,by omega,by rw[zJ];omega⟩
  rw[this,zU,zU,List.map_drop,List.map_take]
 rw[hq];rfl
theorem B.appendZ {α:Type} {enc:α->List PV} {l r:List α} {h v sz:Nat} {T:TypeId} {i:TypeInfo} {at1:TypeId} {d:Tmp} (hx:ev1 s x=.aref h v) (hm:qx s.ms h=some (.arr v sz T (l.map enc))) (hy:ev1 s y=.pv (.slice (r.map enc)))
  (hu:Y.underlying at1=some (.slice T)) (hi:Y.info? T=some i) (hok:(Nat.blt 0 i.size&&i.zero.isSome&&Nat.beq (i.zero.getD default).cells.size i.size&&Nat.beq sz i.size)=true) (hsz:∀ a,(enc a).length=sz) {bs:Nat} (hbs:i.bytes=bs)
  (hlen:(l.length+r.length)*bs<=140737488355328/\l.length+r.length<=9223372036854775807) :
  Body P Y nb s ⟨some d,.call ⟨.builtin .append,⟨[x,y]⟩,⟨[at1,at1]⟩⟩,ty,pos,af,gd⟩ (.pv (.slice ((l++r).map enc))) [(h,.farr (v+1) ((l++r).map enc))] [h]:=by
 subst hbs
 simp only[zj,Nat.beq_eq,Nat.blt_eq] at hok
 obtain⟨⟨⟨k1,k2⟩,k3⟩,k4⟩:=hok
 subst k4
 have e1:evU (tmpsOf [x,y]) s x=.aref h v:=(qV (by simp)).trans hx
 have e2:evU (tmpsOf [x,y]) s y=.pv (.slice (r.map enc)):=(qV (by simp)).trans hy
 have hrs:([x,y].flatMap fun x'=>(evU (tmpsOf [x,y]) s x').refs)=[h]:=by simp[e1,e2,DV.refs]
 have hsel:sel s.ms (Zn s.ms 10000 [h] [])=[(h,.arr v i.size T (l.map enc))]:=by
  have:Zn s.ms 10000 [h] []=[h]:=by
   show (bif ([]:List Nat).any (Nat.beq h) then _ else _)=_
   simp only[List.any_nil,cond_false,hm,MO.refs,zW];rfl
  rw[this];simp only[sel,hm]
 refine .inl ⟨O0,[(h,.arr v i.size T (l.map enc))],_,_,0,0,j3 P,?_,?_,?_,?_,Frz.arr _ h (v+1) i.size T ((l++r).map enc),?_⟩
 ·show ledM s.ms ([x,y].flatMap fun x'=>(evU (tmpsOf [x,y]) s x').refs) 2=_
  rw[hrs];exact hsel
 ·show rdM s.ms ([x,y].flatMap fun x'=>(evU (tmpsOf [x,y]) s x').refs) [(h,.arr v i.size T (l.map enc))] 2=_
  rw[hrs];rfl
 ·show (jh [(h,.arr v i.size T (l.map enc))]&&([x,y].flatMap fun x'=>(evU (tmpsOf [x,y]) s x').refs).all (jE [(h,.arr v i.size T (l.map enc))]))=true
  rw[hrs]
  simp[jh,MO.refs,jE,qJ]
 ·have ha:Zu Y 0 at1 at1 (.aref h v) (.pv (.slice (r.map enc))) (qx [(h,.arr v i.size T (l.map enc))]) (qx [(h,.arr v i.size T (l.map enc))])=some ⟨true,.aref h (v+1),[(h,.arr (v+1) i.size T ((l++r).map enc))]⟩:=by
   unfold Zu
   have hl:qx [(h,MO.arr v i.size T (l.map enc))] h=some (.arr v i.size T (l.map enc)):=by rw[qJ,if_pos rfl]
   have hs:srcOf Y at1 at1 i (qx [(h,.arr v i.size T (l.map enc))]) (.aref h v) (.pv (.slice (r.map enc)))=some (r.map enc):=by
    unfold srcOf;simp[conts]
   have hq:(decide (0<i.size)&&i.zero.isSome&&decide ((i.zero.getD default).cells.size=i.size))=true:=by
    simp only[zj,zf];exact⟨⟨k1,k2⟩,k3⟩
   have hal:jD i.size (r.map enc)=true:=by
    unfold jD
    rw[zp]
    intro a ha
    obtain⟨b,_,rfl⟩:=zE.1 ha
    simpa using hsz b
   have hle:decide (((l.map enc).length+(r.map enc).length)*i.bytes<=140737488355328/\(l.map enc).length+(r.map enc).length<=9223372036854775807)=true:=by
    simp only[zJ];exact zl hlen
   simp only[hu,hi,hs,hq,hl,qq,and_self,hal,hle,Bool.and_self,qd]
  have hv:effV Y 0 (some d) (.call ⟨.builtin .append,⟨[x,y]⟩,⟨[at1,at1]⟩⟩) (evU (tmpsOf [x,y]) s) (qx [(h,.arr v i.size T (l.map enc))])=some ⟨true,.aref h (v+1),[(h,.arr (v+1) i.size T ((l++r).map enc))]⟩:=by
   show (match truncU _ (evU (tmpsOf [x,y]) s x) with|some (d',h',m)=>_|none=>Zu Y 0 at1 at1 (evU (tmpsOf [x,y]) s x) (evU (tmpsOf [x,y]) s y) _ _)=_
   rw[e1,e2]
   exact ha
  show (match effV Y 0 (some d) (.call ⟨.builtin .append,⟨[x,y]⟩,⟨[at1,at1]⟩⟩) (evU (tmpsOf [x,y]) s) (qx [(h,.arr v i.size T (l.map enc))]) with|some ⟨true,v,m⟩=>some (v,m)|_=>none)=_
  rw[hv]
 simp[jE,qJ]
end
end Go.Lens
end
section
namespace Go.Lens.Tm
open Go.Lens.Tb Go.Proofs
variable [Lz]
set_option maxHeartbeats 4000000
set_option maxRecDepth 100000
attribute [local irreducible] TK PK T RG EfR Body CG
theorem by115:ty115.info.bytes=40:=by kernel_rfl
theorem fa115_1:fadQ tab 115 1=some 1:=by kernel_rfl
theorem fa116_0:fadQ tab 116 0=some 0:=by kernel_rfl
theorem in115:tab.info? 115=some ty115.info:=by kernel_rfl
theorem ZC:szT tab 115=some 3:=by kernel_rfl
theorem sz116:szT tab 116=some 3:=by kernel_rfl
theorem un82:tab.underlying 82=some (.slice 116):=by kernel_rfl
theorem un83:tab.underlying 83=some (.slice 115):=by kernel_rfl
theorem w136 (c:Cmd):CKa 136 [.pv (gC c)] (vI (jK c)):=by
 refine cG qf136 rfl (nB rfl) rfl (E rfl (B.seqB (a:=c.1) (b:=[97,99,116]) rfl rfl) (Cp rfl rfl (fun h1=>?_) (fun h1=>?_)))
 ·exact C rfl (w104 (bsO c.2.1)) rfl rfl rfl (C rfl (w99 c.2.2 0 0) rfl rfl rfl (E rfl (B.jj (val:=.pv (.slice (List.map eI [(qF (!(qY (bsO c.2.1))) 8),(qG c.2.2 0 0)]))) rfl (fun l=>Frz.arr l _ _ _ _ _) rfl) (C rfl (w100 [(qF (!(qY (bsO c.2.1))) 8),(qG c.2.2 0 0)] (nB rfl)) rfl rfl rfl (Dr rfl (by kernel_rfl) (Rt rfl (leaf (val0:=vI (qP [(qF (!(qY (bsO c.2.1))) 8),(qG c.2.2 0 0)])) (by kernel_rfl) (li (by (rw[jK,if_pos h1])))))))))
 refine E rfl (B.seqB (a:=c.1) (b:=[101,110,100]) rfl rfl) (Cp rfl rfl (fun h2=>?_) (fun h2=>?_))
 ·exact E rfl (B.sneB (a:=c.2.1) (b:=[]) rfl rfl) (C rfl (w101 (decide (c.2.1≠[])) 1) rfl rfl rfl (C rfl (w99 c.2.2 0 0) rfl rfl rfl (E rfl (B.jj (val:=.pv (.slice (List.map eI [(qF (decide (c.2.1≠[])) 1),(qG c.2.2 0 0)]))) rfl (fun l=>Frz.arr l _ _ _ _ _) rfl) (C rfl (w100 [(qF (decide (c.2.1≠[])) 1),(qG c.2.2 0 0)] (nB rfl)) rfl rfl rfl (Dr rfl (by kernel_rfl) (Rt rfl (leaf (val0:=vI (qP [(qF (decide (c.2.1≠[])) 1),(qG c.2.2 0 0)])) (by kernel_rfl) (li (by (rw[jK,if_neg h1,if_pos h2]))))))))))
 refine E rfl (B.seqB (a:=c.1) (b:=[119,97,105,116]) rfl rfl) (Cp rfl rfl (fun h3=>?_) (fun h3=>?_))
 ·exact E rfl (B.sneB (a:=c.2.1) (b:=[]) rfl rfl) (C rfl (w101 (decide (c.2.1≠[])) 1) rfl rfl rfl (C rfl (w99 c.2.2 1 100000) rfl rfl rfl (E rfl (B.jj (val:=.pv (.slice (List.map eI [(qF (decide (c.2.1≠[])) 1),(qG c.2.2 1 100000)]))) rfl (fun l=>Frz.arr l _ _ _ _ _) rfl) (C rfl (w100 [(qF (decide (c.2.1≠[])) 1),(qG c.2.2 1 100000)] (nB rfl)) rfl rfl rfl (Dr rfl (by kernel_rfl) (Rt rfl (leaf (val0:=vI (qP [(qF (decide (c.2.1≠[])) 1),(qG c.2.2 1 100000)])) (by kernel_rfl) (li (by (rw[jK,if_neg h1,if_neg h2,if_pos h3]))))))))))
 refine E rfl (B.seqB (a:=c.1) (b:=[114,101,112,101,97,116]) rfl rfl) (Cp rfl rfl (fun h4=>?_) (fun h4=>?_))
 ·exact E rfl (B.sneB (a:=c.2.1) (b:=[]) rfl rfl) (C rfl (w101 (decide (c.2.1≠[])) 1) rfl rfl rfl (C rfl (w99 c.2.2 1 100) rfl rfl rfl (E rfl (B.jj (val:=.pv (.slice (List.map eI [(qF (decide (c.2.1≠[])) 1),(qG c.2.2 1 100)]))) rfl (fun l=>Frz.arr l _ _ _ _ _) rfl) (C rfl (w100 [(qF (decide (c.2.1≠[])) 1),(qG c.2.2 1 100)] (nB rfl)) rfl rfl rfl (Dr rfl (by kernel_rfl) (Rt rfl (leaf (val0:=vI (qP [(qF (decide (c.2.1≠[])) 1),(qG c.2.2 1 100)])) (by kernel_rfl) (li (by (rw[jK,if_neg h1,if_neg h2,if_neg h3,if_pos h4]))))))))))
 exact Rt rfl (leaf (val0:=vI 13) (by kernel_rfl) (li (by (rw[jK,if_neg h1,if_neg h2,if_neg h3,if_neg h4]))))
theorem w134 (o:List UInt8):CKa 134 [vS (bsO o)] (vI (jV o)):=by
 refine cG qf134 rfl (nB rfl) rfl (E rfl (B.seqB (a:=o) (b:=[97,99,116]) rfl rfl) (Cp rfl rfl (fun h1=>?_) (fun h1=>?_)))
 ·refine Cp rfl rfl (fun h2=>?_) (fun h2=>?_)
  ·exact Rt rfl (leaf (val0:=vI 2) (by kernel_rfl) (li (by (rw[jV,if_pos (by assumption)]))))
  refine E rfl (B.seqB (a:=o) (b:=[101,110,100]) rfl rfl) (Cp rfl rfl (fun h3=>?_) (fun h3=>?_))
  ·exact Rt rfl (leaf (val0:=vI 1) (by kernel_rfl) (li (by (exfalso;contradiction))))
  exact Rt rfl (leaf (val0:=vI 0) (by kernel_rfl) (li (by (exfalso;contradiction))))
 refine E rfl (B.seqB (a:=o) (b:=[119,97,105,116]) rfl rfl) (Cp rfl rfl (fun h4=>?_) (fun h4=>?_))
 ·refine Cp rfl rfl (fun h5=>?_) (fun h5=>?_)
  ·exact Rt rfl (leaf (val0:=vI 2) (by kernel_rfl) (li (by (rw[jV,if_neg (by assumption),if_pos (by assumption)]))))
  refine E rfl (B.seqB (a:=o) (b:=[101,110,100]) rfl rfl) (Cp rfl rfl (fun h6=>?_) (fun h6=>?_))
  ·exact Rt rfl (leaf (val0:=vI 1) (by kernel_rfl) (li (by (exfalso;contradiction))))
  exact Rt rfl (leaf (val0:=vI 0) (by kernel_rfl) (li (by (exfalso;contradiction))))
 refine E rfl (B.seqB (a:=o) (b:=[114,101,112,101,97,116]) rfl rfl) (Cp rfl rfl (fun h7=>?_) (fun h7=>?_))
 ·exact Rt rfl (leaf (val0:=vI 2) (by kernel_rfl) (li (by (rw[jV,if_neg (by assumption),if_neg (by assumption),if_pos (by assumption)]))))
 refine E rfl (B.seqB (a:=o) (b:=[101,110,100]) rfl rfl) (Cp rfl rfl (fun h8=>?_) (fun h8=>?_))
 ·exact Rt rfl (leaf (val0:=vI 1) (by kernel_rfl) (li (by (rw[jV,if_neg (by assumption),if_neg (by assumption),if_neg (by assumption),if_pos (by assumption)]))))
 exact Rt rfl (leaf (val0:=vI 0) (by kernel_rfl) (li (by (rw[jV,if_neg (by assumption),if_neg (by assumption),if_neg (by assumption),if_neg (by assumption)]))))
theorem w130 (c:Cmd):CKa 130 [.pv (gC c)] (vI (jK c)):=by
 refine cG qf130 rfl (nB rfl) rfl (C rfl (w134 c.1) rfl rfl rfl (Cp rfl rfl (fun h1=>?_) (fun h1=>?_)))
 ·exact Rt rfl (leaf (val0:=vI 13) (by kernel_rfl) (li (by (exact (chk_kind h1).symm))))
 refine E rfl (B.seqB (a:=c.1) (b:=[97,99,116]) rfl rfl) (Eg rfl rfl (fun hc=>B.fadB rfl fa115_1 rfl) rfl (Eg rfl rfl (fun hc=>B.jM (qy rfl hc) rfl rfl ag9 sz9 rfl) rfl (Eg rfl rfl (fun hc=>B.call (w94 (bsO c.2.1)) rfl (ds1 (qy rfl hc)) rfl) rfl (Eg rfl rfl (fun hc=>B.not (qy rfl hc)) rfl (E rfl (B.pick rfl rfl rfl (gdB rfl) rfl (qL _)) (Cb rfl rfl (fun h2=>?_) (fun h2=>?_)))))))
 ·exact Rt rfl (leaf (val0:=vI 8) (by kernel_rfl) (li (by (exact (chk_name h2).symm))))
 refine E rfl (B.sneB (a:=c.1) (b:=[97,99,116]) rfl rfl) (Eg rfl rfl (fun hc=>B.fadB rfl fa115_1 rfl) rfl (Eg rfl rfl (fun hc=>B.jM (qy rfl hc) rfl rfl ag9 sz9 rfl) rfl (Eg rfl rfl (fun hc=>B.sneB (a:=c.2.1) (b:=[]) (qy rfl hc) rfl) rfl (E rfl (B.pick rfl rfl rfl (gdB rfl) rfl (qL _)) (Cb rfl rfl (fun h3=>?_) (fun h3=>?_))))))
 ·exact Rt rfl (leaf (val0:=vI 1) (by kernel_rfl) (li (by (exact (chk_form h1 h3).symm))))
 refine E rfl (B.seqB (a:=c.1) (b:=[119,97,105,116]) rfl rfl) (Cp rfl rfl (fun h4=>?_) (fun h4=>?_))
 ·refine E rfl (B.seqB (a:=c.1) (b:=[114,101,112,101,97,116]) rfl rfl) (Cp rfl rfl (fun h5=>?_) (fun h5=>?_))
  ·refine C rfl (w93 c.2.2 1 100) rfl rfl rfl (Cb rfl rfl (fun h6=>?_) (fun h6=>?_))
   ·exact Rt rfl (leaf (val0:=vI 3) (by kernel_rfl) (li (by exact absurd (h4.symm.trans (by assumption)) (show ¬kWait=Zz by decide))))
   exact Rt rfl (leaf (val0:=vI 0) (by kernel_rfl) (li (by exact absurd (h4.symm.trans (by assumption)) (show ¬kWait=Zz by decide))))
  refine C rfl (w93 c.2.2 1 100000) rfl rfl rfl (Cb rfl rfl (fun h7=>?_) (fun h7=>?_))
  ·exact Rt rfl (leaf (val0:=vI 3) (by kernel_rfl) (li (by (rw[chk_rest h1 h2 h3,if_pos (by assumption)];exact (with_out (by assumption)).symm))))
  exact Rt rfl (leaf (val0:=vI 0) (by kernel_rfl) (li (by (rw[chk_rest h1 h2 h3,if_pos (by assumption)];exact (with_in (by assumption)).symm))))
 refine E rfl (B.seqB (a:=c.1) (b:=[114,101,112,101,97,116]) rfl rfl) (Cp rfl rfl (fun h8=>?_) (fun h8=>?_))
 ·refine C rfl (w93 c.2.2 1 100) rfl rfl rfl (Cb rfl rfl (fun h9=>?_) (fun h9=>?_))
  ·exact Rt rfl (leaf (val0:=vI 3) (by kernel_rfl) (li (by (rw[chk_rest h1 h2 h3,if_neg (by assumption),if_pos (by assumption)];exact (with_out (by assumption)).symm))))
  exact Rt rfl (leaf (val0:=vI 0) (by kernel_rfl) (li (by (rw[chk_rest h1 h2 h3,if_neg (by assumption),if_pos (by assumption)];exact (with_in (by assumption)).symm))))
 refine C rfl (w93 c.2.2 0 0) rfl rfl rfl (Cb rfl rfl (fun h10=>?_) (fun h10=>?_))
 ·exact Rt rfl (leaf (val0:=vI 3) (by kernel_rfl) (li (by (rw[chk_rest h1 h2 h3,if_neg (by assumption),if_neg (by assumption)];exact (with_out (by assumption)).symm))))
 exact Rt rfl (leaf (val0:=vI 0) (by kernel_rfl) (li (by (rw[chk_rest h1 h2 h3,if_neg (by assumption),if_neg (by assumption)];exact (with_in (by assumption)).symm))))
theorem w138 (l:List Cmd) (i:Nat) (hi:i<=l.length) (hl:l.length<=1000000000000):CKa 138 [vL eC l,vI i] (vI ((j5 0 i (List.drop i l):Nat):Int)):=by
 refine cG qf138 rfl (nB rfl) rfl (l2 (fun (k:Nat) (d:Int)=>[(0,vL eC l),(5,vI d),(6,vI k)]) (fun _ _=>[]) (fun k d=>k<=l.length/\j5 0 i (List.drop i l)=j5 d k (List.drop k l)/\ -(k:Int)<=d/\d<=(k:Int)) (fun k _=>l.length-k) i 0 rfl ?_ (sb rfl rfl rfl) ?_)
 · exact⟨hi,rfl,by omega,by omega⟩
 intro k d hI0
 refine E rfl (B.je rfl un83) (Cp rfl rfl (fun h1=>?_) (fun h1=>?_))
 ·refine E rfl (B.idx (z:=z3) (i:=k) rfl rfl un83 ZC (fun _=>rfl) rfl (by omega)) (E rfl (B.seqB (a:=(l.getD k z3).1) (b:=[114,101,112,101,97,116]) rfl rfl) (Cp rfl rfl (fun h2=>?_) (fun h2=>?_)))
  ·refine E rfl (B.add rfl rfl (by unfold R64;omega)) (E rfl (B.idx (z:=z3) (i:=k) rfl rfl un83 ZC (fun _=>rfl) rfl (by omega)) (E rfl (B.seqB (a:=(l.getD k z3).1) (b:=[101,110,100]) rfl rfl) (Cp rfl rfl (fun h3=>?_) (fun h3=>?_))))
   ·refine E rfl (B.sub rfl rfl (by unfold R64;omega)) (Cp rfl rfl (fun h4=>?_) (fun h4=>?_))
    ·exact Rt rfl (leaf (val0:=vI k) (by kernel_rfl) (li (by exact absurd (Eq.trans (Eq.symm h2) h3) kF)))
    refine E rfl (B.add rfl rfl (by unfold R64;omega)) (pk rfl (L2 (k+1) ((d+1)-1) ?_ ?_ (sb rfl rfl rfl)))
    ·
      refine⟨by omega,hI0.2.1.trans ?_,by omega,by omega⟩;exact absurd (Eq.trans (Eq.symm h2) h3) kF
    · omega
   refine E rfl (B.add rfl rfl (by unfold R64;omega)) (pk rfl (L2 (k+1) (d+1) ?_ ?_ (sb rfl rfl rfl)))
   ·
     refine⟨by omega,hI0.2.1.trans ?_,by omega,by omega⟩;exact mat_rep (by omega) h2
   · omega
  refine E rfl (B.idx (z:=z3) (i:=k) rfl rfl un83 ZC (fun _=>rfl) rfl (by omega)) (E rfl (B.seqB (a:=(l.getD k z3).1) (b:=[101,110,100]) rfl rfl) (Cp rfl rfl (fun h5=>?_) (fun h5=>?_)))
  ·refine E rfl (B.sub rfl rfl (by unfold R64;omega)) (Cp rfl rfl (fun h6=>?_) (fun h6=>?_))
   ·exact Rt rfl (leaf (val0:=vI k) (by kernel_rfl) (li (by (rw[hI0.2.1,mat_end (by omega) h5,if_pos h6]))))
   refine E rfl (B.add rfl rfl (by unfold R64;omega)) (pk rfl (L2 (k+1) (d-1) ?_ ?_ (sb rfl rfl rfl)))
   ·
     refine⟨by omega,hI0.2.1.trans ?_,by omega,by omega⟩;(rw[mat_end (by omega) h5,if_neg h6])
   · omega
  refine E rfl (B.add rfl rfl (by unfold R64;omega)) (pk rfl (L2 (k+1) d ?_ ?_ (sb rfl rfl rfl)))
  ·
    refine⟨by omega,hI0.2.1.trans ?_,by omega,by omega⟩;exact mat_one (by omega) h2 h5
  · omega
 exact E rfl (B.je rfl un83) (Rt rfl (leaf (val0:=vI l.length) (by kernel_rfl) (li (by (rw[hI0.2.1,mat_nil (by omega)];omega)))))
theorem w61 (l:List Cmd) (d:Nat) (hw:Wf d l) (hc:∀ c∈l,jK c=0) (hl:l.length<=64) (hd:d<=4)
 (hrec:∀ (b:List Cmd) (d1:Nat),b.length<l.length->Wf d1 b->(∀ c∈b,jK c=0)->d1<=4->CKa 61 [vL eC b] (vI (kE b))):CKa 61 [vL eC l] (vI (kE l)):=by
 refine cG qf61 rfl (nB rfl) rfl ?_
 have hsl:=wf_small hw hd hc hl
 refine l2 (fun (i:Nat) (n:Int)=>[(0,vL eC l),(3,vI n),(4,vI i)]) (fun _ _=>[]) (fun i n=>i<=l.length/\Wf d (List.drop i l)/\n+kE (List.drop i l)=kE l/\0<=n) (fun i _=>l.length-i) 0 0 rfl ?_ (sb rfl rfl rfl) ?_
 · (exact⟨zq _,hw,by rw[List.drop_zero];omega,by omega⟩)
 intro i n hI0
 have hs0:=wf_small hI0.2.1 hd (fun c h=>hc c (zt h)) (by rw[zo];omega)
 refine E rfl (B.je rfl un83) (Cp rfl rfl (fun h1=>?_) (fun h1=>?_))
 ·refine E rfl (B.idx (z:=z3) (i:=i) rfl rfl un83 ZC (fun _=>rfl) rfl (by omega)) (E rfl (B.sneB (a:=(l.getD i z3).1) (b:=[114,101,112,101,97,116]) rfl rfl) (Cp rfl rfl (fun h2=>?_) (fun h2=>?_)))
  ·refine E rfl (B.add rfl rfl (by unfold R64;omega)) (E rfl (B.add rfl rfl (by unfold R64;omega)) (pk rfl (L2 (i+1) (n+1) ?_ ?_ (sb rfl rfl rfl))))
   ·
     (obtain⟨q1,q2,q3⟩:=wf_next hI0.2.1 (by omega) h2;exact⟨by omega,q2,by omega,by omega⟩)
   · omega
  refine C rfl (w138 l i (by omega) (by omega)) rfl rfl rfl ?_
  refine tk 8 rfl ?_
  refine tn ⟨[(0,vL eC l),(3,vI n),(4,vI i),(5,vI ((j5 0 i (List.drop i l):Nat):Int))],[]⟩ rfl rfl rfl ?_
  obtain⟨d1,e,hde,he,he1,he2,hwb,hwr,hle⟩:=wf_at hI0.2.1 (by omega) (zi.1 h2)
  rw[<-he]
  have hcb:∀ c∈List.drop (i+1) (List.take e l),jK c=0:=fun c h=>hc c (zr (zt h))
  have hbl:(List.drop (i+1) (List.take e l)).length<l.length:=by rw[zo,zn];omega
  have hsb:=wf_small hwb (by omega) hcb (by omega)
  have hsr:=wf_small hwr hd (fun c h=>hc c (zt h)) (by rw[zo];omega)
  have hcn:=cnt_rep (hc _ (getD_mem (z:=z3) (k:=i) (by omega))) (zi.1 h2)
  have hpn:0<=(l.getD i z3).2.2*(1+kE (List.drop (i+1) (List.take e l))):=Int.mul_nonneg (by omega) (by omega)
  refine kc (E rfl (B.idx (z:=z3) (i:=i) rfl rfl un83 ZC (fun _=>rfl) rfl (by omega)) (E rfl (B.add rfl rfl (by unfold R64;omega)) (E rfl (B.slTD (i:=(i+1)) (j:=e) rfl rfl rfl un83 ZC (fun _=>rfl) (by omega) rfl (by omega) (by omega)) (C rfl (hrec _ d1 hbl hwb hcb (by omega)) rfl rfl rfl (E rfl (B.add rfl rfl (by unfold R64;omega)) (E rfl (B.mul rfl rfl (by unfold R64;omega)) (E rfl (B.add rfl rfl (by unfold R64;omega)) (Dr rfl (by kernel_rfl) (E rfl (B.add rfl rfl (by unfold R64;omega)) (pk rfl (L2 (e+1) (n+((l.getD i z3).2.2*(1+(kE (List.drop (i+1) (List.take e l)))))) ?_ ?_ (sb rfl rfl rfl))))))))))))
  ·
    exact⟨by omega,hwr,by omega,by omega⟩
  · omega
 exact Rt rfl (leaf (val0:=vI n) (by kernel_rfl) (li (by have hz:=hI0.2.2.1;rw[zN (by omega),lenP_nil] at hz;omega)))
theorem w61r:∀ (n:Nat) (l:List Cmd) (d:Nat),l.length<=n->Wf d l->(∀ c∈l,jK c=0)->l.length<=64->d<=4->CKa 61 [vL eC l] (vI (kE l))
 | 0,l,d,hn,hw,hc,hl,hd=>w61 l d hw hc hl hd fun b d1 hb=>absurd hb (by omega)
 | n+1,l,d,hn,hw,hc,hl,hd=>w61 l d hw hc hl hd fun b d1 hb hw1 hc1 hd1=>w61r n b d1 (by omega) hw1 hc1 (by omega) hd1
theorem w61s {l:List Cmd} (hl:l.length<=64) (hc:∀ c∈l,jK c=0) (hd:depC 0 l=0):CKa 61 [vL eC l] (vI (kE l)):=w61r l.length l 4 (zz _) (wf_of hd) hc hl (by omega)
theorem w137 (l:List Cmd) (hc:∀ c∈l,jK c=0) (hl:l.length<=64) (hd:depC 0 l=0):CKa 137 [vL eC l] (vI (kE l)):=by
 refine cG qf137 rfl (nB rfl) rfl ?_
 have hsl:=wf_small (wf_of hd) (by omega) hc hl
 refine E rfl (B.run rfl) (E rfl (B.adopt 5 1 3 rfl rfl) (E rfl (B.je rfl un82) (l5 (fun (k:Nat) (v:Nat) (u:Nat) (s:Int) (st:List (Int×Int))=>[(3,.aref 9 v),(4,.aref 5 u),(9,vL eC l),(10,vI l.length),(11,vI k)]) (fun _ v u s st=>[(5,.arr u 1 3 (List.map eI (cnL st))),(9,.arr v 1 3 (List.map eI (smL st s)))]) (fun k _ _ s st=>k<=l.length/\LnI l k s st) (fun k _ _ _ _=>l.length-k) 0 0 0 0 [] rfl ?_ (sb rfl rfl rfl) ?_)))
 · exact⟨zq _,ln_init hd⟩
 intro k v u s st hI0
 have hle:=ln_le hI0.2 hc
 have hsk:=hI0.2.1.2.2
 have hsl2:=smL_len st s
 have hcl2:=cnL_len st
 refine Cp rfl rfl (fun h1=>?_) (fun h1=>?_)
 ·refine E rfl (B.idx (z:=z3) (i:=k) rfl rfl un82 sz116 (fun _=>rfl) rfl (by omega)) (E rfl (B.lenA rfl rfl kn) (E rfl (B.sub rfl rfl (by unfold R64;omega)) ?_))
  refine tk 7 rfl ?_
  refine tn ⟨[(3,.aref 9 v),(4,.aref 5 u),(6,.bref 7 0),(7,vI (((List.length (smL st s):Nat):Int)-1)),(9,vL eC l),(10,vI l.length),(11,vI k)],[(5,.arr u 1 3 (List.map eI (cnL st))),(7,bC 116 (l.getD k z3)),(9,.arr v 1 3 (List.map eI (smL st s)))]⟩ rfl rfl rfl ?_
  obtain⟨m,hm⟩:∃ m,m=st.length:=⟨_,rfl⟩
  rw[show (((List.length (smL st s):Nat):Int)-1)=(m:Int) by omega]
  refine kc (E rfl (B.seqB (a:=(l.getD k z3).1) (b:=[114,101,112,101,97,116]) rfl rfl) (Cp rfl rfl (fun h2=>?_) (fun h2=>?_)))
  ·refine E rfl (B.jj (val:=.pv (.slice (List.map eI [1]))) rfl (fun l=>Frz.arr l _ _ _ _ _) rfl) (E rfl (B.append rfl rfl rfl kn in3 rfl (fun _=>rfl) by3 (by (simp only[List.length_set,za,zb,zd];omega))) (E rfl (B.jj (val:=.pv (.slice (List.map eI [(l.getD k z3).2.2]))) rfl (fun l=>Frz.arr l _ _ _ _ _) rfl) (E rfl (B.append rfl rfl rfl kn in3 rfl (fun _=>rfl) by3 (by (simp only[List.length_set,za,zb,zd];omega))) (Dr rfl (by kernel_rfl) (E rfl (B.add rfl rfl (by unfold R64;omega)) (pk rfl (L5 (k+1) (v+1) (u+1) 1 ((s,(l.getD k z3).2.2)::st) ?_ ?_ (sb rfl rfl rfl))))))))
   ·
     refine⟨by omega,?_⟩;exact ln_rep hI0.2 hc (by omega) h2
   · omega
  refine E rfl (B.seqB (a:=(l.getD k z3).1) (b:=[101,110,100]) rfl rfl) (Cp rfl rfl (fun h3=>?_) (fun h3=>?_))
  ·refine tk 12 rfl ?_
   refine tn ⟨[(3,.aref 9 v),(4,.aref 5 u),(7,vI m),(9,vL eC l),(10,vI l.length),(11,vI k)],[(5,.arr u 1 3 (List.map eI (cnL st))),(9,.arr v 1 3 (List.map eI (smL st s)))]⟩ rfl rfl rfl ?_
   obtain⟨p,st2,rfl⟩:=ln_some hI0.2 (by omega) h3
   have hm2:m=st2.length+1:=hm
   have g1:(List.getD (smL (p::st2) s) (m-1) 0)=Prod.fst p:=by rw[hm2];exact smL_get2 p st2 s
   have g2:(List.getD (cnL (p::st2)) (m-1) 0)=Prod.snd p:=by rw[hm2];exact cnL_get p st2
   have g3:(List.getD (smL (p::st2) s) m 0)=s:=by rw[hm2];exact smL_get (p::st2) s
   have hpop:=ln_pop hI0.2 (by omega) h3
   have hpl:=(ln_le hpop hc).1
   have hp0:=hI0.2.2.2 p (qm ..)
   have hq1:0<=(List.getD (cnL (p::st2)) (m-1) 0)*(List.getD (smL (p::st2) s) m 0)/\(List.getD (smL (p::st2) s) (m-1) 0)+(List.getD (cnL (p::st2)) (m-1) 0)*(List.getD (smL (p::st2) s) m 0)<=7000000000/\0<=(List.getD (smL (p::st2) s) (m-1) 0):=by
     rw[g1,g2,g3];exact⟨Int.mul_nonneg (by omega) hI0.2.2.1,by omega,hp0.1⟩
   refine kc (E rfl (B.sub rfl rfl (by unfold R64;omega)) (E rfl (B.idxE (n:=(m-1)) rfl rfl rfl kn sz3 (by omega) (by omega)) (E rfl (B.loadE (n:=(m-1)) (z0:=0) rfl rfl ag3 sz3 (by omega) rfl) (E rfl (B.sub rfl rfl (by unfold R64;omega)) (E rfl (B.idxE (n:=(m-1)) rfl rfl rfl kn sz3 (by omega) (by omega)) (E rfl (B.loadE (n:=(m-1)) (z0:=0) rfl rfl ag3 sz3 (by omega) rfl) (E rfl (B.idxE (n:=m) rfl rfl rfl kn sz3 rfl (by omega)) (E rfl (B.loadE (n:=m) (z0:=0) rfl rfl ag3 sz3 (by omega) rfl) (E rfl (B.mul rfl rfl (by unfold R64;omega)) (E rfl (B.add rfl rfl (by unfold R64;omega)) (E rfl (B.idxE (n:=(m-1)) rfl rfl rfl kn sz3 (by omega) (by omega)) (E rfl (B.setE (z0:=((List.getD (smL (p::st2) s) (m-1) 0)+((List.getD (cnL (p::st2)) (m-1) 0)*(List.getD (smL (p::st2) s) m 0)))) rfl rfl rfl rfl rfl sz3 (by omega) (fun _=>rfl)) (Dr rfl (by kernel_rfl) ?_)))))))))))))
   refine E rfl (B.slA (n:=m) rfl rfl rfl kn sz3 rfl (by (simp only[List.length_set,za,zb,zd];omega))) (E rfl (B.sub rfl rfl (by unfold R64;omega)) (E rfl (B.slA (n:=(m-1)) rfl rfl rfl kn sz3 (by omega) (by omega)) (Dr rfl (by kernel_rfl) ?_)))
   refine tk 14 rfl ?_
   refine tn ⟨[(3,.atrunc 9 v m),(4,.atrunc 5 u (m-1)),(9,vL eC l),(10,vI l.length),(11,vI k)],[(5,.arr u 1 3 (List.map eI (cnL (p::st2)))),(9,.arr v 1 3 (List.map eI (List.set (smL (p::st2) s) (m-1) ((List.getD (smL (p::st2) s) (m-1) 0)+((List.getD (cnL (p::st2)) (m-1) 0)*(List.getD (smL (p::st2) s) m 0))))))]⟩ rfl rfl rfl ?_
   refine TK.trunc (t:=3) rfl rfl ?_
   refine TK.norm ⟨[(3,.aref 9 (v+1)),(4,.atrunc 5 u (m-1)),(9,vL eC l),(10,vI l.length),(11,vI k)],[(5,.arr u 1 3 (List.map eI (cnL (p::st2)))),(9,.arr (v+1) 1 3 (List.map eI (List.take m (List.set (smL (p::st2) s) (m-1) ((List.getD (smL (p::st2) s) (m-1) 0)+((List.getD (cnL (p::st2)) (m-1) 0)*(List.getD (smL (p::st2) s) m 0)))))))]⟩ (sb rfl rfl rfl) ?_
   refine TK.trunc (t:=4) rfl rfl ?_
   refine TK.norm ⟨[(3,.aref 9 (v+1)),(4,.aref 5 (u+1)),(9,vL eC l),(10,vI l.length),(11,vI k)],[(5,.arr (u+1) 1 3 (List.map eI (List.take (m-1) (cnL (p::st2))))),(9,.arr (v+1) 1 3 (List.map eI (List.take m (List.set (smL (p::st2) s) (m-1) ((List.getD (smL (p::st2) s) (m-1) 0)+((List.getD (cnL (p::st2)) (m-1) 0)*(List.getD (smL (p::st2) s) m 0)))))))]⟩ (sb rfl rfl rfl) ?_
   have e1:(List.take m (List.set (smL (p::st2) s) (m-1) ((List.getD (smL (p::st2) s) (m-1) 0)+((List.getD (cnL (p::st2)) (m-1) 0)*(List.getD (smL (p::st2) s) m 0)))))=smL st2 (Prod.fst p+Prod.snd p*s):=by rw[g1,g2,g3,hm2];exact smL_pop p st2 s _
   have e2:(List.take (m-1) (cnL (p::st2)))=cnL st2:=by rw[hm2];exact cnL_pop p st2
   rw[e1,e2]
   refine kc (E rfl (B.add rfl rfl (by unfold R64;omega)) (pk rfl (L5 (k+1) (v+1) (u+1) (Prod.fst p+Prod.snd p*s) st2 ?_ ?_ (sb rfl rfl rfl))))
   ·
     refine⟨by omega,?_⟩;exact hpop
   · omega
  have g4:List.getD (smL st s) m 0=s:=by rw[hm];exact smL_get st s
  have hsn:=hI0.2.2.1
  refine E rfl (B.idxE (n:=m) rfl rfl rfl kn sz3 rfl (by omega)) (E rfl (B.loadE (n:=m) (z0:=0) rfl rfl ag3 sz3 (by omega) rfl) (E rfl (B.add rfl rfl (by unfold R64;omega)) (E rfl (B.idxE (n:=m) rfl rfl rfl kn sz3 rfl (by omega)) (E rfl (B.setE (z0:=((List.getD (smL st s) m 0)+1)) rfl rfl rfl rfl rfl sz3 (by omega) (fun _=>rfl)) ?_))))
  refine tk 14 rfl ?_
  refine tn ⟨[(3,.aref 9 v),(4,.aref 5 u),(9,vL eC l),(10,vI l.length),(11,vI k)],[(5,.arr u 1 3 (List.map eI (cnL st))),(9,.arr v 1 3 (List.map eI (List.set (smL st s) m ((List.getD (smL st s) m 0)+1))))]⟩ rfl rfl rfl ?_
  have e1:(List.set (smL st s) m ((List.getD (smL st s) m 0)+1))=smL st (s+1):=by rw[g4,hm];exact smL_set st s _
  rw[e1]
  refine kc (E rfl (B.add rfl rfl (by unfold R64;omega)) (pk rfl (L5 (k+1) v u (s+1) st ?_ ?_ (sb rfl rfl rfl))))
  ·
    refine⟨by omega,?_⟩;exact ln_one hI0.2 (by omega) h2 h3
  · omega
 exact E rfl (B.idxE (n:=0) rfl rfl rfl kn sz3 rfl (by omega)) (E rfl (B.loadE (n:=0) (z0:=0) rfl rfl ag3 sz3 (by omega) rfl) (Rt rfl (leaf (val0:=vI (List.getD (smL st s) 0 0)) (by kernel_rfl) (li (by exact ln_end hI0.2 (by omega))))))
theorem w59 (l:List Cmd) (hl:l.length<=1000000000000000):CKa 59 [vL eC l] (vI (chkS l)):=by
 refine cG qf59 rfl (nB rfl) rfl (E rfl (B.je rfl un82) (Cp rfl rfl (fun h1=>?_) (fun h1=>?_)))
 ·exact Rt rfl (leaf (val0:=vI 5) (by kernel_rfl) (li (by (exact (chkS_many h1).symm))))
 refine E rfl (B.je rfl un82) (l1 (fun (k:Nat)=>[(0,vL eC l),(12,vL eC l),(13,vI l.length),(14,vI k)]) (fun _=>[]) (fun k=>k<=l.length/\badC l=badC (List.drop k l)) (fun k=>l.length-k) 0 rfl ?_ (sb rfl rfl rfl) ?_)
 · exact⟨zq _,rfl⟩
 intro k hI0
 refine Cp rfl rfl (fun h2=>?_) (fun h2=>?_)
 ·refine E rfl (B.idx (z:=z3) (i:=k) rfl rfl un82 sz116 (fun _=>rfl) rfl (by omega)) (C rfl (w136 (l.getD k z3)) rfl rfl rfl (Cp rfl rfl (fun h3=>?_) (fun h3=>?_)))
  ·exact Rt rfl (leaf (val0:=vI (jK (l.getD k z3))) (by kernel_rfl) (li (by (exact (chkS_bad h1 (hI0.2.trans (badC_no (by omega) h3)) h3).symm))))
  refine E rfl (B.add rfl rfl (by unfold R64;omega)) (pk rfl (L1 (k+1) ?_ ?_ (sb rfl rfl rfl)))
  · exact⟨by omega,hI0.2.trans (badC_ok (by omega) (zi.1 h3))⟩
  · omega
 have hb0:badC l=0:=hI0.2.trans (bad_end (by omega))
 have hc:=badC_all hb0
 refine E rfl (B.je rfl un82) (l2 (fun (k:Nat) (d:Nat)=>[(0,vL eC l),(6,vI d),(24,vL eC l),(25,vI l.length),(26,vI k)]) (fun _ _=>[]) (fun k d=>k<=l.length/\d<=4/\depC 0 l=depC d (List.drop k l)) (fun k _=>l.length-k) 0 0 rfl ?_ (sb rfl rfl rfl) ?_)
 · exact⟨zq _,by omega,rfl⟩
 intro k d hI1
 refine Cp rfl rfl (fun h4=>?_) (fun h4=>?_)
 ·refine E rfl (B.idx (z:=z3) (i:=k) rfl rfl un82 sz116 (fun _=>rfl) rfl (by omega)) (E rfl (B.seqB (a:=(l.getD k z3).1) (b:=[114,101,112,101,97,116]) rfl rfl) (Cp rfl rfl (fun h5=>?_) (fun h5=>?_)))
  ·refine Cp rfl rfl (fun h6=>?_) (fun h6=>?_)
   ·exact Rt rfl (leaf (val0:=vI 22) (by kernel_rfl) (li (by (exact (chkS_dep h1 hb0 (hI1.2.2.trans ((dep_rep (by omega) (by assumption)).trans (if_pos (by omega)))) (by decide)).symm))))
   refine E rfl (B.add rfl rfl (by unfold R64;omega)) (E rfl (B.add rfl rfl (by unfold R64;omega)) (pk rfl (L2 (k+1) (d+1) ?_ ?_ (sb rfl rfl rfl))))
   ·
     exact⟨by omega,by omega,hI1.2.2.trans ((dep_rep (by omega) (by assumption)).trans (if_neg (by omega)))⟩
   · omega
  refine E rfl (B.seqB (a:=(l.getD k z3).1) (b:=[101,110,100]) rfl rfl) (Cp rfl rfl (fun h7=>?_) (fun h7=>?_))
  ·refine Cp rfl rfl (fun h8=>?_) (fun h8=>?_)
   ·exact Rt rfl (leaf (val0:=vI 2) (by kernel_rfl) (li (by (exact (chkS_dep h1 hb0 (hI1.2.2.trans ((dep_end (by omega) (by assumption)).trans (if_pos (by omega)))) (by decide)).symm))))
   refine E rfl (B.sub rfl rfl (by unfold R64;omega)) ?_
   refine tk 23 rfl ?_
   refine tn ⟨[(0,vL eC l),(6,vI ((d:Int)-1)),(24,vL eC l),(25,vI l.length),(26,vI k)],[]⟩ rfl rfl rfl ?_
   rw[show (d:Int)-1=(((d-1):Nat):Int) by omega]
   refine kc (E rfl (B.add rfl rfl (by unfold R64;omega)) (pk rfl (L2 (k+1) (d-1) ?_ ?_ (sb rfl rfl rfl))))
   ·
     exact⟨by omega,by omega,hI1.2.2.trans ((dep_end (by omega) (by assumption)).trans (if_neg (by omega)))⟩
   · omega
  refine E rfl (B.add rfl rfl (by unfold R64;omega)) (pk rfl (L2 (k+1) d ?_ ?_ (sb rfl rfl rfl)))
  ·
    exact⟨by omega,by omega,hI1.2.2.trans (dep_one (by omega) (by assumption) (by assumption))⟩
  · omega
 have hd0:depC 0 l=if 0<d then 2 else 0:=hI1.2.2.trans (dep_nil (by omega))
 refine Cp rfl rfl (fun h9=>?_) (fun h9=>?_)
 ·exact Rt rfl (leaf (val0:=vI 2) (by kernel_rfl) (li (by (exact (chkS_dep h1 hb0 (hd0.trans (if_pos (by omega))) (by decide)).symm))))
 have hd:depC 0 l=0:=hd0.trans (if_neg (by omega))
 exact C rfl (w137 l hc (by omega) hd) rfl rfl rfl (C rfl (w101 (decide (10000<(kE l))) 22) rfl rfl rfl (Rt rfl (leaf (val0:=vI (qF (decide (10000<(kE l))) 22)) (by kernel_rfl) (li (by (exact (chkS_len h1 hb0 hd).symm))))))
theorem w56 (l:List Cmd) (hl:l.length<=1000000000000000):CKa 56 [vL eC l] (vI (chkS l)):=by
 refine cG qf56 rfl (nB rfl) rfl (E rfl (B.je rfl un83) (Cp rfl rfl (fun h1=>?_) (fun h1=>?_)))
 ·exact Rt rfl (leaf (val0:=vI 5) (by kernel_rfl) (li (by (exact (chkS_many h1).symm))))
 refine l1 (fun (k:Nat)=>[(0,vL eC l),(3,vI k)]) (fun _=>[]) (fun k=>k<=l.length/\badC l=badC (List.drop k l)) (fun k=>l.length-k) 0 rfl ?_ (sb rfl rfl rfl) ?_
 · exact⟨zq _,rfl⟩
 intro k hI0
 refine E rfl (B.je rfl un83) (Cp rfl rfl (fun h2=>?_) (fun h2=>?_))
 ·refine E rfl (B.idx (z:=z3) (i:=k) rfl rfl un83 ZC (fun _=>rfl) rfl (by omega)) (C rfl (w130 (l.getD k z3)) rfl rfl rfl (Cp rfl rfl (fun h3=>?_) (fun h3=>?_)))
  ·exact Rt rfl (leaf (val0:=vI (jK (l.getD k z3))) (by kernel_rfl) (li (by (exact (chkS_bad h1 (hI0.2.trans (badC_no (by omega) h3)) h3).symm))))
  refine E rfl (B.add rfl rfl (by unfold R64;omega)) (pk rfl (L1 (k+1) ?_ ?_ (sb rfl rfl rfl)))
  · exact⟨by omega,hI0.2.trans (badC_ok (by omega) (zi.1 h3))⟩
  · omega
 have hb0:badC l=0:=hI0.2.trans (bad_end (by omega))
 have hc:=badC_all hb0
 refine l2 (fun (k:Nat) (d:Nat)=>[(0,vL eC l),(5,vI d),(6,vI k)]) (fun _ _=>[]) (fun k d=>k<=l.length/\d<=4/\depC 0 l=depC d (List.drop k l)) (fun k _=>l.length-k) 0 0 rfl ?_ (sb rfl rfl rfl) ?_
 · exact⟨zq _,by omega,rfl⟩
 intro k d hI1
 refine E rfl (B.je rfl un83) (Cp rfl rfl (fun h4=>?_) (fun h4=>?_))
 ·refine E rfl (B.idx (z:=z3) (i:=k) rfl rfl un83 ZC (fun _=>rfl) rfl (by omega)) (E rfl (B.seqB (a:=(l.getD k z3).1) (b:=[101,110,100]) rfl rfl) (Cp rfl rfl (fun h5=>?_) (fun h5=>?_)))
  ·refine Cp rfl rfl (fun h6=>?_) (fun h6=>?_)
   ·exact Rt rfl (leaf (val0:=vI 2) (by kernel_rfl) (li (by (exact (chkS_dep h1 hb0 (hI1.2.2.trans ((dep_end (by omega) (by assumption)).trans (if_pos (by omega)))) (by decide)).symm))))
   refine E rfl (B.sub rfl rfl (by unfold R64;omega)) ?_
   refine tk 17 rfl ?_
   refine tn ⟨[(0,vL eC l),(5,vI ((d:Int)-1)),(6,vI k)],[]⟩ rfl rfl rfl ?_
   rw[show (d:Int)-1=(((d-1):Nat):Int) by omega]
   refine kc (E rfl (B.idx (z:=z3) (i:=k) rfl rfl un83 ZC (fun _=>rfl) rfl (by omega)) (E rfl (B.seqB (a:=(l.getD k z3).1) (b:=[114,101,112,101,97,116]) rfl rfl) (Cp rfl rfl (fun h7=>?_) (fun h7=>?_))))
   ·refine Cp rfl rfl (fun h8=>?_) (fun h8=>?_)
    ·exact Rt rfl (leaf (val0:=vI 22) (by kernel_rfl) (li (by (exact (chkS_dep h1 hb0 (hI1.2.2.trans ((dep_rep (by omega) (by assumption)).trans (if_pos (by omega)))) (by decide)).symm))))
    refine E rfl (B.add rfl rfl (by unfold R64;omega)) (E rfl (B.add rfl rfl (by unfold R64;omega)) (pk rfl (L2 (k+1) ((d-1)+1) ?_ ?_ (sb rfl rfl rfl))))
    ·
      exact absurd (Eq.trans (Eq.symm (by assumption)) (by assumption)) kF
    · omega
   refine E rfl (B.add rfl rfl (by unfold R64;omega)) (pk rfl (L2 (k+1) (d-1) ?_ ?_ (sb rfl rfl rfl)))
   ·
     exact⟨by omega,by omega,hI1.2.2.trans ((dep_end (by omega) (by assumption)).trans (if_neg (by omega)))⟩
   · omega
  refine E rfl (B.idx (z:=z3) (i:=k) rfl rfl un83 ZC (fun _=>rfl) rfl (by omega)) (E rfl (B.seqB (a:=(l.getD k z3).1) (b:=[114,101,112,101,97,116]) rfl rfl) (Cp rfl rfl (fun h9=>?_) (fun h9=>?_)))
  ·refine Cp rfl rfl (fun h10=>?_) (fun h10=>?_)
   ·exact Rt rfl (leaf (val0:=vI 22) (by kernel_rfl) (li (by (exact (chkS_dep h1 hb0 (hI1.2.2.trans ((dep_rep (by omega) (by assumption)).trans (if_pos (by omega)))) (by decide)).symm))))
   refine E rfl (B.add rfl rfl (by unfold R64;omega)) (E rfl (B.add rfl rfl (by unfold R64;omega)) (pk rfl (L2 (k+1) (d+1) ?_ ?_ (sb rfl rfl rfl))))
   ·
     exact⟨by omega,by omega,hI1.2.2.trans ((dep_rep (by omega) (by assumption)).trans (if_neg (by omega)))⟩
   · omega
  refine E rfl (B.add rfl rfl (by unfold R64;omega)) (pk rfl (L2 (k+1) d ?_ ?_ (sb rfl rfl rfl)))
  ·
    exact⟨by omega,by omega,hI1.2.2.trans (dep_one (by omega) (by assumption) (by assumption))⟩
  · omega
 have hd0:depC 0 l=if 0<d then 2 else 0:=hI1.2.2.trans (dep_nil (by omega))
 refine Cp rfl rfl (fun h11=>?_) (fun h11=>?_)
 ·exact Rt rfl (leaf (val0:=vI 2) (by kernel_rfl) (li (by (exact (chkS_dep h1 hb0 (hd0.trans (if_pos (by omega))) (by decide)).symm))))
 have hd:depC 0 l=0:=hd0.trans (if_neg (by omega))
 refine C rfl (w61s (by omega) hc hd) rfl rfl rfl (Cp rfl rfl (fun h12=>?_) (fun h12=>?_))
 ·exact Rt rfl (leaf (val0:=vI 22) (by kernel_rfl) (li (by (rw[chkS_len h1 hb0 hd,qF,zl (by assumption)];rfl))))
 exact Rt rfl (leaf (val0:=vI 0) (by kernel_rfl) (li (by (rw[chkS_len h1 hb0 hd,qF,zk (by assumption)];rfl))))
end Go.Lens.Tm
end
section
namespace Go.Lens.Tm
open Go.Lens.Tb Go.Proofs
theorem wrong_b (s:LSt):(bif (bif (bif (decide (0<(Prod.fst (Prod.snd s)))) then (decide ((Prod.fst s)≠[99,108,111,115,101,100])) else false) then true else (bif (Prod.fst (Prod.snd (Prod.snd s))) then (decide ((Prod.fst s)=[99,108,111,115,101,100])) else false)) then true else (bif (Prod.snd (Prod.snd (Prod.snd s))) then (bif (decide ((Prod.fst s)=[111,112,101,110])) then true else (decide ((Prod.fst s)=[99,108,111,115,101,100]))) else false))=wrongB s:=by
 simp only[jy,js,wrongB]
theorem st_one (s:LSt):qP [(qF (!(List.any [[105,100,108,101],[111,112,101,110],[99,108,111,115,101,100],[115,97,102,101]] (fun y=>decide ((Prod.fst s)=y)))) 13),(qG (Prod.fst (Prod.snd s)) 0 2),(qF (bif (bif (bif (decide (0<(Prod.fst (Prod.snd s)))) then (decide ((Prod.fst s)≠[99,108,111,115,101,100])) else false) then true else (bif (Prod.fst (Prod.snd (Prod.snd s))) then (decide ((Prod.fst s)=[99,108,111,115,101,100])) else false)) then true else (bif (Prod.snd (Prod.snd (Prod.snd s))) then (bif (decide ((Prod.fst s)=[111,112,101,110])) then true else (decide ((Prod.fst s)=[99,108,111,115,101,100]))) else false)) 18)]=chkSt s:=by
 rw[wrong_b]
 simp only[List.any_cons,List.any_nil,Bool.or_false]
 rfl
theorem take_stp (l:List Stp) (k:Nat) (h:k<l.length):l.take (k+1)=l.take k++[l.getD k (0,[])]:=by
 rw[List.take_add_one,zm h,ze,zm h];rfl
theorem stp_eq {x y:Stp} (h:(!((decide ((Prod.fst x)=(Prod.fst y)))&&(decide ((Prod.snd x)=(Prod.snd y)))))=false):x=y:=by
 simp only[Bool.not_eq_false',zj,zf] at h
 exact Prod.ext h.1 h.2
theorem stp_ne {x y:Stp} (h:(!((decide ((Prod.fst x)=(Prod.fst y)))&&(decide ((Prod.snd x)=(Prod.snd y)))))=true):¬x=y:=by
 rintro rfl
 simp at h
end Go.Lens.Tm
end
