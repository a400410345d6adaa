/- A part of the proof of NightSafeCardSaid, without conditions. -/
import Derived.Test.YtomghboflcafbaaGreatDoorS3
import Derived.Test.YtomghboflcafbaaGreatDoorS4
import Derived.Laws.RangeAny
import Derived.Test.YtomghboflcafbaaGreatDoorS10
import Derived.Lib.Bytealg
set_option linter.unusedVariables false
set_option linter.unusedSimpArgs false
set_option linter.unusedSectionVars false
section
namespace Go.Lens
variable [Lz]
theorem bsO_size (a:List UInt8):(bsO a).size=a.length:=rfl
theorem bsO_toList (a:List UInt8):(bsO a).toList=a:=by rw[ByteArray.toList_eq];rfl
theorem bsO_append (a b:List UInt8):bsO a++bsO b=bsO (a++b):=by
 apply ByteArray.ext
 apply Array.toList_inj.1
 simp[bsO]
theorem bsO_extract (a:List UInt8) (i j:Nat):(bsO a).extract i j=bsO ((a.take j).drop i):=by
 apply ByteArray.ext
 apply Array.toList_inj.1
 simp[bsO,ByteArray.data_extract,List.drop_take]
def ltS (a b:List UInt8):Bool:=Op.bytesLess a b
def leS (a b:List UInt8):Bool:=Op.bytesLess a b||a==b
section
variable {P:Program} {Y:Tab} [qU P Y] {nb:Nat} {s:St} {dst:Option Tmp} {ty u:TypeId} {pos:String} {af:Array Edge} {gd:Option (Nat×Bool)} {t:TypeId} {x y z:Operand} {a b:List UInt8}
theorem B.catB (hx:ev1 s x=lit (.string (bsO a))) (hy:ev1 s y=lit (.string (bsO b))) (h:a.length+b.length<=9223372036854775807):Body P Y nb s ⟨dst,.binOp .add t x y u,ty,pos,af,gd⟩ (lit (.string (bsO (a++b)))) [] []:=by
 refine B.bin hx hy ?_
 show qE (some (decide ((bsO a).size+(bsO b).size<=9223372036854775807),lit (.string (bsO a++bsO b))))=_
 have:decide ((bsO a).size+(bsO b).size<=9223372036854775807)=true:=zl h
 rw[this,bsO_append];rfl
theorem B.seqB (hx:ev1 s x=lit (.string (bsO a))) (hy:ev1 s y=lit (.string (bsO b))):Body P Y nb s ⟨dst,.binOp .eql t x y u,ty,pos,af,gd⟩ (lit (.bool (decide (a=b)))) [] []:=by
 have:=B.seql (P:=P) (Y:=Y) (nb:=nb) (s:=s) (dst:=dst) (ty:=ty) (u:=u) (pos:=pos) (af:=af) (gd:=gd) (t:=t) hx hy
 rwa [show decide (bsO a=bsO b)=decide (a=b) by rw[zM];simp[bsO_inj]] at this
theorem B.sneB (hx:ev1 s x=lit (.string (bsO a))) (hy:ev1 s y=lit (.string (bsO b))):Body P Y nb s ⟨dst,.binOp .neq t x y u,ty,pos,af,gd⟩ (lit (.bool (decide (a≠b)))) [] []:=by
 have:=B.sneq (P:=P) (Y:=Y) (nb:=nb) (s:=s) (dst:=dst) (ty:=ty) (u:=u) (pos:=pos) (af:=af) (gd:=gd) (t:=t) hx hy
 rwa [show decide (bsO a≠bsO b)=decide (a≠b) by rw[zM];simp[bsO_inj]] at this
theorem B.sltB (hx:ev1 s x=lit (.string (bsO a))) (hy:ev1 s y=lit (.string (bsO b))):Body P Y nb s ⟨dst,.binOp .lss t x y u,ty,pos,af,gd⟩ (lit (.bool (ltS a b))) [] []:=by
 refine B.bin hx hy ?_
 show qE (some (true,lit (.bool (Op.bytesLess (bsO a).toList (bsO b).toList))))=_
 rw[bsO_toList,bsO_toList];rfl
theorem B.sleB (hx:ev1 s x=lit (.string (bsO a))) (hy:ev1 s y=lit (.string (bsO b))):Body P Y nb s ⟨dst,.binOp .leq t x y u,ty,pos,af,gd⟩ (lit (.bool (leS a b))) [] []:=by
 refine B.bin hx hy ?_
 show qE (some (true,lit (.bool (Op.bytesLess (bsO a).toList (bsO b).toList||(bsO a).toList==(bsO b).toList))))=_
 rw[bsO_toList,bsO_toList];rfl
theorem B.bqB {p q:Bool} (hx:ev1 s x=lit (.bool p)) (hy:ev1 s y=lit (.bool q)) (und:Y.underlying t=some .bool):Body P Y nb s ⟨dst,.binOp .eql t x y u,ty,pos,af,gd⟩ (lit (.bool (p==q))) [] []:=by
 refine B.bin hx hy ?_
 have h3:binQ Y .eql t (lit (.bool p)) (lit (.bool q))=some (true,lit (.bool (p==q))):=by
  simp only[binQ,lit,und]
 show qE (binW Y .eql t (qx []) (ZC y) (lit (.bool p)) (lit (.bool q)))=_
 have h4:binW Y .eql t (qx []) (ZC y) (lit (.bool p)) (lit (.bool q))=some (true,lit (.bool (p==q))):=by
  unfold binW
  simp only[lit] at h3 ⊢
  simp only[nilQ,nilKind,samePQ,h3]
 rw[h4];rfl
theorem B.lenB {at':TypeId} (hx:ev1 s x=lit (.string (bsO a))) (hu:Y.underlying at'=some .string):Body P Y nb s ⟨dst,.call ⟨.builtin .len,⟨[x]⟩,⟨[at']⟩⟩,ty,pos,af,gd⟩ (lit (.int .i64 ((a.length:Nat):Int))) [] []:=B.lenS hx hu
theorem B.slHB {hi:Operand} {k:IntKind} {n:Int} {j:Nat} (hx:ev1 s x=lit (.string (bsO a))) (hy:ev1 s hi=lit (.int k n)) (hu:Y.underlying t=some .string) (hn:n=(j:Int)) (hj:j<=a.length) :
 Body P Y nb s ⟨dst,.slice t x none (some hi) none,ty,pos,af,gd⟩ (lit (.string (bsO (a.take j)))) [] []:=by
 refine B.pure (lo:=0) (nm:=0) (ke P) ?_ ?_
 ·intro z hz
  have:z=x\/z=hi:=by simpa [Op.operands] using hz
  rcases this with rfl|rfl
  ·rw[hx];rfl
  rw[hy];rfl
 have e1:evU (tmpsOf [x,hi]) s x=_:=(qX (by simp)).trans hx
 have e2:evU (tmpsOf [x,hi]) s hi=_:=(qX (by simp)).trans hy
 have hv:effV Y 0 dst (.slice t x none (some hi) none) (evU (tmpsOf [x,hi]) s) (qx [])=ZJ (kL Y t (qx []) (evU (tmpsOf [x,hi]) s x) none (some (evU (tmpsOf [x,hi]) s hi)) none):=rfl
 show (match effV Y 0 dst (.slice t x none (some hi) none) (evU (tmpsOf [x,hi]) s) (qx []) with|some ⟨true,v,m⟩=>some (v,m)|_=>none)=_
 rw[hv,e1,e2]
 have hq:kL Y t (qx []) (lit (.string (bsO a))) none (some (lit (.int k n))) none=some (true,lit (.string (bsO (a.take j)))):=by
  show kn Y t (qx []) (lit (.string (bsO a))) none (some (lit (.int k n))) none=_
  unfold kn lit
  simp only[hu,bound,zP,Option.getD_none]
  subst hn
  have:decide ((0:Int)<=0/\(0:Int)<=(j:Int)/\(j:Int)<=((bsO a).size:Int))=true:=zl ⟨by omega,by omega,by rw[bsO_size];omega⟩
  rw[this,zU,bsO_extract];rfl
 rw[hq];rfl
theorem B.slLB {lo:Operand} {k:IntKind} {n:Int} {i:Nat} (hx:ev1 s x=lit (.string (bsO a))) (hy:ev1 s lo=lit (.int k n)) (hu:Y.underlying t=some .string) (hn:n=(i:Int)) (hi:i<=a.length) :
 Body P Y nb s ⟨dst,.slice t x (some lo) none none,ty,pos,af,gd⟩ (lit (.string (bsO (a.drop i)))) [] []:=by
 refine B.pure (lo:=0) (nm:=0) (ke P) ?_ ?_
 ·intro z hz
  have:z=x\/z=lo:=by simpa [Op.operands] using hz
  rcases this with rfl|rfl
  ·rw[hx];rfl
  rw[hy];rfl
 have e1:evU (tmpsOf [x,lo]) s x=_:=(qX (by simp)).trans hx
 have e2:evU (tmpsOf [x,lo]) s lo=_:=(qX (by simp)).trans hy
 have hv:effV Y 0 dst (.slice t x (some lo) none none) (evU (tmpsOf [x,lo]) s) (qx [])=ZJ (kL Y t (qx []) (evU (tmpsOf [x,lo]) s x) (some (evU (tmpsOf [x,lo]) s lo)) none none):=by
  show (match frzU (qx []) (refsOf (evU (tmpsOf [x,lo]) s) [x]) with
   | []=>stepV Y 0 dst (.slice t x (some lo) none none) (evU (tmpsOf [x,lo]) s) (qx []) (qx [])
   | fz=>match stepV Y 0 dst (.slice t x (some lo) none none) (evU (tmpsOf [x,lo]) s) (upd fz (qx [])) (upd fz (qx [])) with
    | some ⟨s,v,ms⟩=>some ⟨s,v,mrg ms fz⟩
    | none=>none)=_
  have hrf:refsOf (evU (tmpsOf [x,lo]) s) [x]=[]:=by simp[refsOf,e1,lit,DV.refs]
  rw[hrf];rfl
 show (match effV Y 0 dst (.slice t x (some lo) none none) (evU (tmpsOf [x,lo]) s) (qx []) with|some ⟨true,v,m⟩=>some (v,m)|_=>none)=_
 rw[hv,e1,e2]
 have hq:kL Y t (qx []) (lit (.string (bsO a))) (some (lit (.int k n))) none none=some (true,lit (.string (bsO (a.drop i)))):=by
  show kn Y t (qx []) (lit (.string (bsO a))) (some (lit (.int k n))) none none=_
  unfold kn lit
  simp only[hu,bound,zP,Option.getD_none]
  subst hn
  have:decide ((0:Int)<=(i:Int)/\(i:Int)<=((bsO a).size:Int)/\((bsO a).size:Int)<=((bsO a).size:Int))=true:=zl ⟨by omega,by rw[bsO_size];omega,by omega⟩
  rw[this,zU,zU,bsO_extract,bsO_size,zx (zz _)]
 rw[hq];rfl
theorem B.slMB {lo hi:Operand} {k k':IntKind} {n m:Int} {i j:Nat} (hx:ev1 s x=lit (.string (bsO a))) (hy:ev1 s lo=lit (.int k n)) (hz:ev1 s hi=lit (.int k' m)) (hu:Y.underlying t=some .string) (hn:n=(i:Int)) (hm:m=(j:Int)) (hij:i<=j) (hj:j<=a.length) :
 Body P Y nb s ⟨dst,.slice t x (some lo) (some hi) none,ty,pos,af,gd⟩ (lit (.string (bsO ((a.take j).drop i)))) [] []:=by
 refine B.pure (lo:=0) (nm:=0) (ke P) ?_ ?_
 ·intro z hz'
  have:z=x\/z=lo\/z=hi:=by simpa [Op.operands] using hz'
  rcases this with rfl|rfl|rfl
  ·rw[hx];rfl
  ·rw[hy];rfl
  rw[hz];rfl
 have e1:evU (tmpsOf [x,lo,hi]) s x=_:=(qX (by simp)).trans hx
 have e2:evU (tmpsOf [x,lo,hi]) s lo=_:=(qX (by simp)).trans hy
 have e3:evU (tmpsOf [x,lo,hi]) s hi=_:=(qX (by simp)).trans hz
 have hv:effV Y 0 dst (.slice t x (some lo) (some hi) none) (evU (tmpsOf [x,lo,hi]) s) (qx [])=ZJ (kL Y t (qx []) (evU (tmpsOf [x,lo,hi]) s x) (some (evU (tmpsOf [x,lo,hi]) s lo)) (some (evU (tmpsOf [x,lo,hi]) s hi)) none):=by
  show (match frzU (qx []) (refsOf (evU (tmpsOf [x,lo,hi]) s) [x]) with
   | []=>stepV Y 0 dst (.slice t x (some lo) (some hi) none) (evU (tmpsOf [x,lo,hi]) s) (qx []) (qx [])
   | fz=>match stepV Y 0 dst (.slice t x (some lo) (some hi) none) (evU (tmpsOf [x,lo,hi]) s) (upd fz (qx [])) (upd fz (qx [])) with
    | some ⟨s,v,ms⟩=>some ⟨s,v,mrg ms fz⟩
    | none=>none)=_
  have hrf:refsOf (evU (tmpsOf [x,lo,hi]) s) [x]=[]:=by simp[refsOf,e1,lit,DV.refs]
  rw[hrf];rfl
 show (match effV Y 0 dst (.slice t x (some lo) (some hi) none) (evU (tmpsOf [x,lo,hi]) s) (qx []) with|some ⟨true,v,m⟩=>some (v,m)|_=>none)=_
 rw[hv,e1,e2,e3]
 have hq:kL Y t (qx []) (lit (.string (bsO a))) (some (lit (.int k n))) (some (lit (.int k' m))) none=some (true,lit (.string (bsO ((a.take j).drop i)))):=by
  show kn Y t (qx []) (lit (.string (bsO a))) (some (lit (.int k n))) (some (lit (.int k' m))) none=_
  unfold kn lit
  simp only[hu,bound,zP]
  subst hn;subst hm
  have:decide ((0:Int)<=(i:Int)/\(i:Int)<=(j:Int)/\(j:Int)<=((bsO a).size:Int))=true:=zl ⟨by omega,by omega,by rw[bsO_size];omega⟩
  rw[this,zU,zU,bsO_extract]
 rw[hq];rfl
theorem B.slDL {α:Type} {enc:α->List PV} {l:List α} {lo:Operand} {k:IntKind} {n:Int} {i:Nat} {e:TypeId} {sz:Nat} (hx:ev1 s x=.pv (.slice (l.map enc))) (hy:ev1 s lo=lit (.int k n)) (hu:Y.underlying t=some (.slice e)) (hs:szT Y e=some sz) (hsz:∀ a,(enc a).length=sz) (hn:n=(i:Int)) (hi:i<=l.length) :
 Body P Y nb s ⟨dst,.slice t x (some lo) none none,ty,pos,af,gd⟩ (.pv (.slice ((l.drop i).map enc))) [] []:=by
 refine B.pure (lo:=0) (nm:=0) (ke P) ?_ ?_
 ·intro z hz
  have:z=x\/z=lo:=by simpa [Op.operands] using hz
  rcases this with rfl|rfl
  ·rw[hx];rfl
  rw[hy];rfl
 have e1:evU (tmpsOf [x,lo]) s x=_:=(qX (by simp)).trans hx
 have e2:evU (tmpsOf [x,lo]) s lo=_:=(qX (by simp)).trans hy
 have hv:effV Y 0 dst (.slice t x (some lo) none none) (evU (tmpsOf [x,lo]) s) (qx [])=ZJ (kL Y t (qx []) (evU (tmpsOf [x,lo]) s x) (some (evU (tmpsOf [x,lo]) s lo)) none none):=by
  show (match frzU (qx []) (refsOf (evU (tmpsOf [x,lo]) s) [x]) with
   | []=>stepV Y 0 dst (.slice t x (some lo) none none) (evU (tmpsOf [x,lo]) s) (qx []) (qx [])
   | fz=>match stepV Y 0 dst (.slice t x (some lo) none none) (evU (tmpsOf [x,lo]) s) (upd fz (qx [])) (upd fz (qx [])) with
    | some ⟨s,v,ms⟩=>some ⟨s,v,mrg ms fz⟩
    | none=>none)=_
  have hrf:refsOf (evU (tmpsOf [x,lo]) s) [x]=[]:=by simp[refsOf,e1,DV.refs]
  rw[hrf];rfl
 show (match effV Y 0 dst (.slice t x (some lo) none none) (evU (tmpsOf [x,lo]) s) (qx []) with|some ⟨true,v,m⟩=>some (v,m)|_=>none)=_
 rw[hv,e1,e2]
 have hal:jK sz (l.map enc)=true:=by
  unfold jK
  rw[zp]
  intro b hb
  obtain⟨c,_,rfl⟩:=zE.1 hb
  simpa using hsz c
 have hq:kL Y t (qx []) (.pv (.slice (l.map enc))) (some (lit (.int k n))) none none=some (true,.pv (.slice ((l.drop i).map enc))):=by
  show kn Y t (qx []) (.pv (.slice (l.map enc))) (some (lit (.int k n))) none none=_
  unfold kn lit
  simp only[hu,hs,bound,Option.getD_none,hal,Bool.and_true]
  subst hn
  have:decide ((0:Int)<=(i:Int)/\(i:Int)<=((l.map enc).length:Int)/\((l.map enc).length:Int)<=((l.map enc).length:Int))=true:=zl ⟨by omega,by rw[zJ];omega,by omega⟩
  rw[this,zU,zU,zx (zz _),List.map_drop]
 rw[hq];rfl
end
end Go.Lens
end
section
namespace Go.Lens.Tb
open Go.Proofs
variable [Lz]
set_option maxRecDepth 100000
attribute [local irreducible] TK PK T RG EfR Body CG
theorem ag3:aggT tab 3=some false:=by kernel_rfl
theorem sz3:szT tab 3=some 1:=by kernel_rfl
theorem sz34:szT tab 34=some 1:=by kernel_rfl
theorem ku:tab.underlying 22=some (.slice 3):=by kernel_rfl
theorem un289:tab.underlying 289=some (.slice 34):=by kernel_rfl
theorem w101 (b:Bool) (e:Int):CKa 101 [vB b,vI e] (vI (qF b e)):=by
 refine cG qf101 Z (nB Z) Z (Cb Z Z (fun h1=>?_) (fun h1=>?_))
 ·exact Rt Z (leaf (val0:=vI e) (by kernel_rfl) (li (by subst h1;rfl)))
 exact Rt Z (leaf (val0:=vI 0) (by kernel_rfl) (li (by subst h1;rfl)))
theorem w93 (n low high:Int):CKa 93 [vI n,vI low,vI high] (vB (Zw n low high)):=by
 exact cG qf93 Z (nB Z) Z (Eg Z Z (fun hc=>B.move Z) Z (Eg Z Z (fun hc=>B.move Z) Z (Eg Z Z (fun hc=>B.gtr (qy Z hc) (qy Z hc)) Z (E Z (B.pick Z Z Z Z (gdB Z) (q7 _)) (Rt Z (leaf (val0:=vB (bif (decide (n<low)) then true else (decide (high<n)))) (by kernel_rfl) (lb (by simp only[Zw,jA]))))))))
theorem w99 (n low high:Int):CKa 99 [vI n,vI low,vI high] (vI (qG n low high)):=by
 exact cG qf99 Z (nB Z) Z (Eg Z Z (fun hc=>B.move Z) Z (Eg Z Z (fun hc=>B.move Z) Z (Eg Z Z (fun hc=>B.gtr (qy Z hc) (qy Z hc)) Z (E Z (B.pick Z Z Z Z (gdB Z) (q7 _)) (C Z (w101 (bif (decide (n<low)) then true else (decide (high<n))) 3) Z Z Z (Rt Z (leaf (val0:=vI (qF (bif (decide (n<low)) then true else (decide (high<n))) 3)) (by kernel_rfl) (li (by simp only[qG,Zw,jA])))))))))
theorem w100 (l:List Int) (hl:l.length<=1000000000000000):CKa 100 [vL eI l] (vI (qP l)):=by
 refine cG qf100 Z (nB Z) Z (E Z (B.jh Z un289) (l1 (fun (k:Nat)=>[(5,vL eI l),(6,vI l.length),(7,vI k)]) (fun _=>[]) (fun k=>k<=l.length/\qP l=qP (List.drop k l)) (fun k=>l.length-k) 0 Z ?_ (sb Z Z Z) ?_))
 · exact⟨zq _,rfl⟩
 intro k hI0
 refine Cp Z Z (fun h1=>?_) (fun h1=>?_)
 ·refine E Z (B.idx (z:=0) (i:=k) Z Z un289 sz34 (fun _=>rfl) Z (by omega)) (Cp Z Z (fun h2=>?_) (fun h2=>?_))
  ·exact Rt Z (leaf (val0:=vI (l.getD k 0)) (by kernel_rfl) (li (by first|(rw[hI0.2,drop_at l k 0 (by omega),qP,if_neg (by omega)])|(rw[hI0.2,zX (by omega)];rfl))))
  refine E Z (B.add Z Z (by unfold R64;omega)) (pk Z (L1 (k+1) ?_ ?_ (sb Z Z Z)))
  · (refine⟨by omega,?_⟩;rw[hI0.2,drop_at l k 0 (by omega),qP,if_pos (by omega)])
  · omega
 exact Rt Z (leaf (val0:=vI 0) (by kernel_rfl) (li (by first|(rw[hI0.2,drop_at l k 0 (by omega),qP,if_neg (by omega)])|(rw[hI0.2,zX (by omega)];rfl))))
end Go.Lens.Tb
end
section
namespace Go.Lens.Tb
theorem bnot_t {b:Bool} (h:(!b)=true):b=false:=by cases b<;>first|rfl|cases h
theorem bnot_f {b:Bool} (h:(!b)=false):b=true:=by cases b<;>first|rfl|cases h
def letterF (c:Int):Bool:=(decide (97<=c)&&decide (c<=122))||(decide (65<=c)&&decide (c<=90))
def nameAt (i:Nat) (c:Int):Bool:=letterF c||(!decide ((i:Int)=0)&&((decide (48<=c)&&decide (c<=57))||decide (c=95)))
def qV (s:ByteArray):Bool:=decide (1<=s.size)&&decide (s.size<=24)&&(List.range s.size).all fun i=>nameAt i (byteAt s i)
theorem nm8:∀ a b c d z e f g:Bool,(bif !(bif (bif a then b else false) then true else (bif c then d else false)) then (bif z then true else !(bif (bif e then f else false) then true else g)) else false)=!(((a&&b)||(c&&d))||(!z&&((e&&f)||g))):=by decide
theorem isName_no {s:ByteArray} (k:Nat) (hk:k<s.size) (h:nameAt k (byteAt s k)=false):qV s=false:=by
  unfold qV
  have:((List.range s.size).all fun i=>nameAt i (byteAt s i))=false:=by
    rw[List.all_eq_false]
    exact⟨k,List.mem_range.2 hk,by simp[h]⟩
  rw[this,Bool.and_false]
theorem isName_yes {s:ByteArray} (h1:1<=s.size) (h2:s.size<=24) (h:∀ j,j<s.size->nameAt j (byteAt s j)=true):qV s=true:=by
  unfold qV
  rw[zl h1,zl h2]
  simp only[Bool.true_and,zp,List.mem_range]
  exact h
theorem ZQ {s:ByteArray} (h:s.size<1\/24<s.size):qV s=false:=by
  unfold qV
  rcases h with h|h
  · rw[zk (by omega)];simp
  · rw[zk (p:=s.size<=24) (by omega)];simp
def kI {α:Type} (p:α->Bool):List α->Int
  | []=> -1
  | a::l=>bif p a then 0 else (bif decide (kI p l<0) then -1 else kI p l+1)
section
variable {α:Type} {p:α->Bool} {z:α}
theorem kG:∀ {l:List α},(∀ j,j<l.length->p (l.getD j z)=false)->kI p l= -1
  | [],_=>rfl
  | a::l,h=>by
    have h0:=h 0 (by simp)
    have h1:=kG (l:=l) fun j hj=>h (j+1) (by simpa using hj)
    simp only[List.getD_cons_zero] at h0
    simp[kI,h0,h1]
theorem Za:∀ {l:List α} (k:Nat),k<l.length->(∀ j,j<k->p (l.getD j z)=false)->p (l.getD k z)=true->kI p l=k
  | [],k,hk,_,_=>by simp at hk
  | a::l,0,_,_,h=>by
    simp only[List.getD_cons_zero] at h
    simp[kI,h]
  | a::l,k+1,hk,hj,h=>by
    have h0:=hj 0 (by omega)
    have h1:=Za (l:=l) k (by simpa using hk) (fun j hj'=>hj (j+1) (by omega)) h
    simp only[List.getD_cons_zero] at h0
    simp only[kI,h0,h1,cond_false]
    rw[zk (by omega)];simp
theorem j5:∀ (l:List α),decide (0<=kI p l)=l.any p
  | []=>rfl
  | a::l=>by
    have ih:=j5 l
    simp only[kI,List.any_cons]
    by_cases hp:p a=true
    · simp only[hp,cond_true,Bool.true_or];rfl
    · rw[Bool.not_eq_true] at hp
      simp only[hp,cond_false,Bool.false_or]
      rw[<-ih]
      by_cases h:kI p l<0
      · rw[zl h,zk (p:=0<=kI p l) (by omega)];rfl
      · rw[zk h,zl (p:=0<=kI p l) (by omega)]
        exact zl (by simp only[cond_false];omega)
end
theorem findI_nonneg_t {α:Type} {p:α->Bool} {l:List α}:(0<=kI p l)=(l.any p=true):=by
  rw[<-j5];simp
theorem findI_nonneg_f {α:Type} {p:α->Bool} {l:List α}:(¬0<=kI p l)=(l.any p=false):=by
  rw[<-j5];simp
theorem any_getD_none {α:Type} {p:α->Bool} {l:List α} (z:α) (h:∀ j,j<l.length->p (l.getD j z)=false):l.any p=false:=by
  rw[List.any_eq_false]
  intro a ha
  obtain⟨j,hj,rfl⟩:=List.getElem_of_mem ha
  have:=h j hj
  rw[ze,zm hj] at this
  simpa using this
def jX (t:Tgt):Bool:=!Zw t.bright 1 1000&&!Zw t.place 0 360&&!Zw t.length 1 1440&&!Zw t.from_ 0 1440&&!Zw t.to 0 1440&&!Zw t.limit 0 100
def ko (start:Int) (W:List Int):Int:=bif Zw start 0 1440 then 3 else bif decide (W.length=0) then 12 else bif decide (24<W.length) then 5 else bif W.any (fun x=>Zw x 0 100) then 3 else 0
def chkOne (pre:List Tgt) (t:Tgt):Int:=bif !qV t.name then 8 else bif pre.any (fun o=>decide (o.name=t.name)) then 9 else bif !jX t then 3 else 0
def chkGo:List Tgt->List Tgt->Int
  | _,[]=>0
  | pre,t::r=>if chkOne pre t=0 then chkGo (pre++[t]) r else chkOne pre t
def Zi (l:List Tgt):Int:=bif decide (32<l.length) then 5 else chkGo [] l
def ordOne (n:Int) (pre:List Int) (i:Int):Int:=bif Zw i 0 (n-1) then 10 else bif pre.any (fun j=>decide (j=i)) then 9 else 0
def ordGo (n:Int):List Int->List Int->Int
  | _,[]=>0
  | pre,t::r=>if ordOne n pre t=0 then ordGo n (pre++[t]) r else ordOne n pre t
def chkOrdF (n:Int) (o:List Int):Int:=ordGo n [] o
def calmM (W:List Int) (lim b:Int) (n:Nat):Bool:=(List.range n).all fun j=>decide (W.getD ((b+(j:Int)) / 60).toNat 0<=lim)
def canF (W:List Int) (t:Tgt) (b:Int):Bool:=!(decide (b<t.from_))&&!(decide (t.to<b+t.length))&&!(decide (60*(W.length:Int)<b+t.length))&&calmM W t.limit b t.length.toNat
def searchF (p:Int->Bool) (b:Int):Nat->Int
  | 0=> -1
  | n+1=>bif p b then b else searchF p (b+1) n
def begF (W:List Int) (t:Tgt) (e:Int):Int:=searchF (canF W t) e (1441-e).toNat
def tlGo (W:List Int) (l:List Tgt):Option Tgt->Int->List Int->Option (List Int)
  | _,_,[]=>some []
  | prev,at_,i::r=>
    let t:=l.getD i.toNat default
    let b:=begF W t (match prev with|none=>at_|some p=>at_+apartF t.place p.place)
    if b<0 then none else (tlGo W l (some t) (b+t.length) r).map (b::·)
def tlF (start:Int) (W:List Int) (l:List Tgt) (order:List Int):Option (List Int):=tlGo W l none start order
end Go.Lens.Tb
end
section
namespace Go.Lens.Tb
open Go.Proofs
variable [Lz]
set_option maxRecDepth 100000
attribute [local irreducible] TK PK T RG EfR Body CG
theorem ag22:aggT tab 22=some false:=by kernel_rfl
theorem ag9:aggT tab 9=some false:=by kernel_rfl
theorem fa49_2:fadQ tab 49 2=some 2:=by kernel_rfl
theorem fa49_3:fadQ tab 49 3=some 3:=by kernel_rfl
theorem fa49_4:fadQ tab 49 4=some 4:=by kernel_rfl
theorem fa49_5:fadQ tab 49 5=some 5:=by kernel_rfl
theorem fa49_6:fadQ tab 49 6=some 6:=by kernel_rfl
theorem sz22:szT tab 22=some 1:=by kernel_rfl
theorem sz49:szT tab 49=some 7:=by kernel_rfl
theorem sz9:szT tab 9=some 1:=by kernel_rfl
theorem un27:tab.underlying 27=some (.slice 49):=by kernel_rfl
theorem un9:tab.underlying 9=some (.string):=by kernel_rfl
theorem w94 (s:ByteArray):CKa 94 [vS s] (vB (qV s)):=by
 refine cG qf94 Z (nB Z) Z (E Z (B.lenS Z un9) (Eg Z Z (fun hc=>B.move Z) Z (Eg Z Z (fun hc=>B.lenS (qy Z hc) un9) Z (Eg Z Z (fun hc=>B.gtr (qy Z hc) Z) Z (E Z (B.pick Z Z Z Z (gdB Z) (q7 _)) (Cb Z Z (fun h1=>?_) (fun h1=>?_)))))))
 ·exact Rt Z (leaf (val0:=vB false) (by kernel_rfl) (lb (by (refine (ZQ ?_).symm;simp only[jA,Bool.or_eq_true,zf] at h1;omega))))
 refine l1 (fun (k:Nat)=>[(0,vS s),(3,vI k)]) (fun _=>[]) (fun k=>k<=ByteArray.size s/\1<=ByteArray.size s/\ByteArray.size s<=24/\∀ j,j<k->nameAt j (byteAt s j)=true) (fun k=>ByteArray.size s-k) 0 Z ?_ (sb Z Z Z) ?_
 · (simp only[jA,qc,zH] at h1;exact⟨by omega,by omega,by omega,fun j hj=>by omega⟩)
 intro k hI0
 refine E Z (B.lenS Z un9) (Cp Z Z (fun h2=>?_) (fun h2=>?_))
 ·refine E Z (B.sidx (i:=k) Z Z un9 Z (by omega)) (Eg Z Z (fun hc=>B.move Z) Z (Eg Z Z (fun hc=>B.leq (qy Z hc) Z) Z (E Z (B.pick Z Z Z (gdB Z) Z (qJ _)) (Eg Z Z (fun hc=>B.move Z) Z (Eg Z Z (fun hc=>B.geq (qy Z hc) Z) Z (Eg Z Z (fun hc=>B.move (qy Z hc)) Z (Eg Z Z (fun hc=>B.move Z) Z (Eg Z Z (fun hc=>B.leq (qy Z hc) Z) Z (Eg Z Z (fun hc=>B.pick (qy Z hc) Z Z (gdB Z) Z (kr hc)) Z (E Z (B.pick Z Z Z Z (gdB Z) (q7 _)) (Eg Z Z (fun hc=>B.move Z) Z (Eg Z Z (fun hc=>B.eql (qy Z hc) Z) Z (Eg Z Z (fun hc=>B.move (qy Z hc)) Z ?_)))))))))))))
  refine Eg Z Z (fun hc=>B.move Z) Z (Eg Z Z (fun hc=>B.geq (qy Z hc) Z) Z (Eg Z Z (fun hc=>B.move (qy Z hc)) Z (Eg Z Z (fun hc=>B.move Z) Z (Eg Z Z (fun hc=>B.leq (qy Z hc) Z) Z (Eg Z Z (fun hc=>B.pick (qy Z hc) Z Z (gdB Z) Z (kr hc)) Z (Eg Z Z (fun hc=>B.move (qy Z hc)) Z (Eg Z Z (fun hc=>B.move Z) Z (Eg Z Z (fun hc=>B.eql (qy Z hc) Z) Z (Eg Z Z (fun hc=>B.pick (qy Z hc) Z Z Z (gdB Z) (pick_or2 hc)) Z (Eg Z Z (fun hc=>B.not (qy Z hc)) Z (Eg Z Z (fun hc=>B.pick (qy Z hc) Z Z Z (gdB Z) (pick_or2 hc)) Z (E Z (B.pick Z Z Z (gdB Z) Z (qJ _)) (Cb Z Z (fun h3=>?_) (fun h3=>?_))))))))))))))
  ·exact Rt Z (leaf (val0:=vB false) (by kernel_rfl) (lb (by (exact (isName_no k (by omega) (bnot_t ((nm8 _ _ _ _ _ _ _ _).symm.trans h3))).symm))))
  refine E Z (B.add Z Z (by unfold R64;omega)) (pk Z (L1 (k+1) ?_ ?_ (sb Z Z Z)))
  · (refine⟨by omega,hI0.2.1,hI0.2.2.1,fun j hj=>?_⟩;rcases zy.1 hj with h|h;exact hI0.2.2.2 j h;subst h;exact bnot_f ((nm8 _ _ _ _ _ _ _ _).symm.trans h3))
  · omega
 exact Rt Z (leaf (val0:=vB true) (by kernel_rfl) (lb (by exact (isName_yes hI0.2.1 hI0.2.2.1 fun j hj=>hI0.2.2.2 j (by omega)).symm)))
theorem w95 (l:List Tgt) (name:ByteArray) (hl:l.length<=1000000000000000):CKa 95 [vL eT l,vS name] (vI (kI (fun o=>decide (Tgt.name o=name)) l)):=by
 refine cG qf95 Z (nB Z) Z (l1 (fun (k:Nat)=>[(0,vL eT l),(1,vS name),(5,vI k)]) (fun _=>[]) (fun k=>k<=l.length/\∀ j,j<k->¬(Tgt.name (l.getD j default)=name)) (fun k=>l.length-k) 0 Z ?_ (sb Z Z Z) ?_)
 · exact⟨zq _,fun j hj=>by omega⟩
 intro k hI0
 refine E Z (B.jh Z un27) (Cp Z Z (fun h1=>?_) (fun h1=>?_))
 ·refine E Z (B.idx (z:=default) (i:=k) Z Z un27 sz49 (fun _=>rfl) Z (by omega)) (E Z (B.seql Z Z) (Cp Z Z (fun h2=>?_) (fun h2=>?_)))
  ·exact Rt Z (leaf (val0:=vI k) (by kernel_rfl) (li (by exact (Za (p:=fun o=>decide (Tgt.name o=name)) (l:=l) (z:=default) k (by omega) (fun j hj=>zk (hI0.2 j hj)) (zl h2)).symm)))
  refine E Z (B.add Z Z (by unfold R64;omega)) (pk Z (L1 (k+1) ?_ ?_ (sb Z Z Z)))
  · (refine⟨by omega,fun j hj=>?_⟩;rcases zy.1 hj with h|h;exact hI0.2 j h;subst h;exact h2)
  · omega
 exact Rt Z (leaf (val0:=vI (-1)) (by kernel_rfl) (li (by exact (kG (p:=fun o=>decide (Tgt.name o=name)) (l:=l) (z:=default) fun j hj=>zk (hI0.2 j (by omega))).symm)))
theorem w96 (t:Tgt):CKa 96 [.pv (.agg [pS (Tgt.name t),pI (Tgt.bright t),pI (Tgt.place t),pI (Tgt.length t),pI (Tgt.from_ t),pI (Tgt.to t),pI (Tgt.limit t)])] (vB (jX t)):=by
 refine cG qf96 Z (nB Z) Z (C Z (w93 (Tgt.bright t) 1 1000) Z Z Z (Eg Z Z (fun hc=>B.Z9 Z fa49_2 Z) Z (Eg Z Z (fun hc=>B.jP (qy Z hc) Z Z ag3 sz3 Z) Z (Eg Z Z (fun hc=>B.call (w93 (Tgt.place t) 0 360) Z (ds3 (qy Z hc) Z Z) Z) Z (Eg Z Z (fun hc=>B.not (qy Z hc)) Z (E Z (B.pick Z Z Z (gdB Z) Z (qJ _)) (Eg Z Z (fun hc=>B.Z9 Z fa49_3 Z) Z (Eg Z Z (fun hc=>B.jP (qy Z hc) Z Z ag3 sz3 Z) Z (Eg Z Z (fun hc=>B.call (w93 (Tgt.length t) 1 1440) Z (ds3 (qy Z hc) Z Z) Z) Z (Eg Z Z (fun hc=>B.not (qy Z hc)) Z (E Z (B.pick Z Z Z (gdB Z) Z (qJ _)) (Eg Z Z (fun hc=>B.Z9 Z fa49_4 Z) Z (Eg Z Z (fun hc=>B.jP (qy Z hc) Z Z ag3 sz3 Z) Z ?_)))))))))))))
 exact Eg Z Z (fun hc=>B.call (w93 (Tgt.from_ t) 0 1440) Z (ds3 (qy Z hc) Z Z) Z) Z (Eg Z Z (fun hc=>B.not (qy Z hc)) Z (E Z (B.pick Z Z Z (gdB Z) Z (qJ _)) (Eg Z Z (fun hc=>B.Z9 Z fa49_5 Z) Z (Eg Z Z (fun hc=>B.jP (qy Z hc) Z Z ag3 sz3 Z) Z (Eg Z Z (fun hc=>B.call (w93 (Tgt.to t) 0 1440) Z (ds3 (qy Z hc) Z Z) Z) Z (Eg Z Z (fun hc=>B.not (qy Z hc)) Z (E Z (B.pick Z Z Z (gdB Z) Z (qJ _)) (Eg Z Z (fun hc=>B.Z9 Z fa49_6 Z) Z (Eg Z Z (fun hc=>B.jP (qy Z hc) Z Z ag3 sz3 Z) Z (Eg Z Z (fun hc=>B.call (w93 (Tgt.limit t) 0 100) Z (ds3 (qy Z hc) Z Z) Z) Z (Eg Z Z (fun hc=>B.not (qy Z hc)) Z (E Z (B.pick Z Z Z (gdB Z) Z (qJ _)) (Rt Z (leaf (val0:=vB (bif (bif (bif (bif (bif (!(Zw (Tgt.bright t) 1 1000)) then (!(Zw (Tgt.place t) 0 360)) else false) then (!(Zw (Tgt.length t) 1 1440)) else false) then (!(Zw (Tgt.from_ t) 0 1440)) else false) then (!(Zw (Tgt.to t) 0 1440)) else false) then (!(Zw (Tgt.limit t) 0 100)) else false)) (by kernel_rfl) (lb (by simp only[jX,jw]))))))))))))))))
theorem by49:ty49.info.bytes=64:=by kernel_rfl
theorem in49:tab.info? 49=some ty49.info:=by kernel_rfl
theorem sz46:szT tab 46=some 7:=by kernel_rfl
theorem un25:tab.underlying 25=some (.slice 46):=by kernel_rfl
end Go.Lens.Tb
end
section
namespace Go.Lens.Tb
theorem getD_mem {α:Type} {l:List α} {k:Nat} {z:α} (h:k<l.length):l.getD k z∈l:=by
  rw[ze,zm h];exact List.getElem_mem h
end Go.Lens.Tb
end
section
namespace Go.Lens.Tb
open Go.Proofs
variable [Lz]
set_option maxRecDepth 100000
attribute [local irreducible] TK PK T RG EfR Body CG
theorem by3:ty3.info.bytes=8:=by kernel_rfl
theorem in3:tab.info? 3=some ty3.info:=by kernel_rfl
end Go.Lens.Tb
end
section
namespace Go.Lens.Tb
theorem byteAt_get {s:ByteArray} {p:Nat} (h:p<s.size):byteAt s p=((s[p]'h).toNat:Int):=by
  unfold byteAt
  have h':p<s.data.toList.length:=by simpa using h
  rw[ze,zm h']
  simp[ByteArray.getElem_eq_getElem_data]
theorem nameAt_high {p:Nat} {c:Int} (h:128<=c):nameAt p c=false:=by
  unfold nameAt letterF
  rw[zk (p:=c<=122) (by omega),zk (p:=c<=90) (by omega),zk (p:=c<=57) (by omega),zk (p:=c=95) (by omega)]
  simp
theorem rune_name {s:ByteArray} {p:Nat} (h:p<s.size):nameAt p (((Utf8.decode s p).1:Nat):Int)=nameAt p (byteAt s p)/\(nameAt p (byteAt s p)=true->(Utf8.decode s p).2=1):=by
  rw[byteAt_get h]
  rcases Nat.lt_or_ge (s[p]'h).toNat 128 with ha|ha
  · rw[decode_ascii s p h ha]
    exact⟨rfl,fun _=>rfl⟩
  · have:=decode_high s p h ha
    rw[nameAt_high (by omega),nameAt_high (by omega)]
    exact⟨rfl,fun h=>by cases h⟩
theorem nm8r:∀ L z n95 l48 g57:Bool,(bif !L then (bif z then true else (bif n95 then (bif l48 then true else g57) else false)) else false)=!(L||(!z&&((!l48&&!g57)||!n95))):=by decide
theorem nameAt_r (p:Nat) (c:Int):(letterF c||(!decide ((p:Int)=0)&&((!decide (c<48)&&!decide (57<c))||!decide (c≠95))))=nameAt p c:=by
  unfold nameAt
  congr 2
  have h1:(!decide (c<48))=decide (48<=c):=by rw[zM];simp
  have h2:(!decide (57<c))=decide (c<=57):=by rw[zM];simp
  have h3:(!decide (c≠95))=decide (c=95):=by rw[zM];simp
  rw[h1,h2,h3]
theorem rune_cond {s:ByteArray} {p:Nat} (h:p<s.size) {c:Int} (hc:c=(((Utf8.decode s p).1:Nat):Int)) {b:Bool}
    (hb:(bif !(letterF c) then (bif decide ((p:Int)=0) then true else (bif decide (c≠95) then (bif decide (c<48) then true else decide (57<c)) else false)) else false)=b):nameAt p (byteAt s p)=!b:=by
  rw[nm8r,nameAt_r,hc,(rune_name h).1] at hb
  rw[<-hb,Bool.not_not]
theorem empty_iff {s:ByteArray}:s=⟨#[]⟩↔s.size=0:=by
  constructor
  · rintro rfl;rfl
  · intro h;exact ByteArray.ext (Array.eq_empty_of_size_eq_zero h)
theorem first_ranged (t:Tgt):qP [qG t.bright 1 1000,qG t.place 0 360,qG t.length 1 1440,qG t.from_ 0 1440,qG t.to 0 1440,qG t.limit 0 100]=qF (!jX t) 3:=by
  unfold jX qG qF
  cases Zw t.bright 1 1000<;>cases Zw t.place 0 360<;>cases Zw t.length 1 1440<;>cases Zw t.from_ 0 1440<;>cases Zw t.to 0 1440<;>cases Zw t.limit 0 100<;>rfl
theorem ZV (pre:List Tgt) (t:Tgt):qP [qF (!qV t.name) 8,qF (pre.any fun o=>decide (o.name=t.name)) 9,qF (!jX t) 3]=chkOne pre t:=by
  unfold chkOne qF
  cases qV t.name<;>cases (pre.any fun o=>decide (o.name=t.name))<;>cases jX t<;>rfl
end Go.Lens.Tb
end
section
namespace Go.Lens.Tb
open Go.Proofs
variable [Lz]
set_option maxRecDepth 100000
attribute [local irreducible] TK PK T RG EfR Body CG
theorem fa46_0:fadQ tab 46 0=some 0:=by kernel_rfl
theorem w241 (c:Int):CKa 241 [.pv (.lit (.int .i32 c))] (vB (letterF c)):=by
 exact cG qf241 Z (nB Z) Z (Eg Z Z (fun hc=>B.move Z) Z (Eg Z Z (fun hc=>B.leq (qy Z hc) Z) Z (E Z (B.pick Z Z Z (gdB Z) Z (qJ _)) (Eg Z Z (fun hc=>B.move Z) Z (Eg Z Z (fun hc=>B.geq (qy Z hc) Z) Z (Eg Z Z (fun hc=>B.move (qy Z hc)) Z (Eg Z Z (fun hc=>B.move Z) Z (Eg Z Z (fun hc=>B.leq (qy Z hc) Z) Z (Eg Z Z (fun hc=>B.pick (qy Z hc) Z Z (gdB Z) Z (kr hc)) Z (E Z (B.pick Z Z Z Z (gdB Z) (q7 _)) (Rt Z (leaf (val0:=vB (bif (bif (decide (97<=c)) then (decide (c<=122)) else false) then true else (bif (decide (65<=c)) then (decide (c<=90)) else false))) (by kernel_rfl) (lb (by simp only[letterF,jA,jw]))))))))))))))
theorem w164 (s:ByteArray):CKa 164 [vS s] (vB (qV s)):=by
 refine cG qf164 Z (nB Z) Z (E Z (B.rangeS Z un9 Z Z) (l1 (fun (p:Nat)=>[(0,vS s),(6,.bref 7 0)]) (fun p=>[(7,.siter s p)]) (fun p=>p<=ByteArray.size s/\∀ j,j<p->nameAt j (byteAt s j)=true) (fun p=>ByteArray.size s-p) 0 Z ?_ (sb Z Z Z) ?_))
 · exact⟨zq _,fun j hj=>by omega⟩
 intro p hI0
 refine Nx Z Z Z (fun h1=>?_) (fun h1=>?_)
 ·refine CT Z Z (C Z (w241 (((Utf8.decode s p).1:Nat):Int)) Z Z Z (Eg Z Z (fun hc=>B.move Z) Z (Eg Z Z (fun hc=>B.eql (qy Z hc) Z) Z (Eg Z Z (fun hc=>B.move (qy Z hc)) Z (Eg Z Z (fun hc=>B.move Z) Z (Eg Z Z (fun hc=>B.neq (qy Z hc) Z) Z (Eg Z Z (fun hc=>B.move (qy Z hc)) Z (Eg Z Z (fun hc=>B.move Z) Z (Eg Z Z (fun hc=>B.lss (qy Z hc) Z) Z (Eg Z Z (fun hc=>B.move (qy Z hc)) Z (Eg Z Z (fun hc=>B.move Z) Z (Eg Z Z (fun hc=>B.gtr (qy Z hc) Z) Z (Eg Z Z (fun hc=>B.pick (qy Z hc) Z Z Z (gdB Z) (pick_or2 hc)) Z ?_)))))))))))))
  refine Eg Z Z (fun hc=>B.pick (qy Z hc) Z Z (gdB Z) Z (kr hc)) Z (Eg Z Z (fun hc=>B.pick (qy Z hc) Z Z Z (gdB Z) (pick_or2 hc)) Z (E Z (B.pick Z Z Z (gdB Z) Z (qJ _)) (Cb Z Z (fun h2=>?_) (fun h2=>?_))))
  ·exact Rt Z (leaf (val0:=vB false) (by kernel_rfl) (lb (by first
          | exact (isName_no p h1 (rune_cond h1 Z h2)).symm
          | (have he:p=ByteArray.size s:=by omega
             rw[jw]
             by_cases h0:ByteArray.size s=0
             · rw[zk (p:=s≠⟨#[]⟩) (fun h=>h (empty_iff.2 h0)),ZQ (.inl (by omega))];rfl
             · rw[zl (p:=s≠⟨#[]⟩) (fun h=>h0 (empty_iff.1 h))]
               by_cases h9:ByteArray.size s<=24
               · rw[zl (by omega),isName_yes (by omega) h9 fun j hj=>hI0.2 j (by omega)];rfl
               · rw[zk (by omega),ZQ (.inr (by omega))];rfl))))
  refine pk Z (L1 (p+(Utf8.decode s p).2) ?_ ?_ (sb Z Z Z))
  · (have hn:=rune_cond h1 Z h2;rw[(rune_name h1).2 hn];refine⟨by omega,fun j hj=>?_⟩;rcases zy.1 hj with h|h;exact hI0.2 j h;subst h;exact hn)
  · (have hn:=rune_cond h1 Z h2;rw[(rune_name h1).2 hn];omega)
 refine CF Z Z (E Z (B.sneq Z Z) (Eg Z Z (fun hc=>B.move Z) Z (Eg Z Z (fun hc=>B.lenS (qy Z hc) un9) Z (Eg Z Z (fun hc=>B.leq (qy Z hc) Z) Z (E Z (B.pick Z Z Z (gdB Z) Z (qJ _)) ?_)))))
 exact Rt Z (leaf (val0:=vB (bif (decide (s≠⟨#[]⟩)) then (decide (((ByteArray.size s:Nat):Int)<=24)) else false)) (by kernel_rfl) (lb (by first
         | exact (isName_no p h1 (rune_cond h1 Z h2)).symm
         | (have he:p=ByteArray.size s:=by omega
            rw[jw]
            by_cases h0:ByteArray.size s=0
            · rw[zk (p:=s≠⟨#[]⟩) (fun h=>h (empty_iff.2 h0)),ZQ (.inl (by omega))];rfl
            · rw[zl (p:=s≠⟨#[]⟩) (fun h=>h0 (empty_iff.1 h))]
              by_cases h9:ByteArray.size s<=24
              · rw[zl (by omega),isName_yes (by omega) h9 fun j hj=>hI0.2 j (by omega)];rfl
              · rw[zk (by omega),ZQ (.inr (by omega))];rfl))))
theorem w104 (s:ByteArray):CKa 104 [vS s] (vI (qF (!(qV s)) 8)):=by
 exact cG qf104 Z (nB Z) Z (C Z (w164 s) Z Z Z (C Z (w101 (!(qV s)) 8) Z Z Z (Rt Z (leaf Z Z))))
theorem w105 (t:Tgt):CKa 105 [.pv (.agg [pS (Tgt.name t),pI (Tgt.bright t),pI (Tgt.place t),pI (Tgt.length t),pI (Tgt.from_ t),pI (Tgt.to t),pI (Tgt.limit t)])] (vI (qF (!(jX t)) 3)):=by
 exact cG qf105 Z (nB Z) Z (C Z (w99 (Tgt.bright t) 1 1000) Z Z Z (C Z (w99 (Tgt.place t) 0 360) Z Z Z (C Z (w99 (Tgt.length t) 1 1440) Z Z Z (C Z (w99 (Tgt.from_ t) 0 1440) Z Z Z (C Z (w99 (Tgt.to t) 0 1440) Z Z Z (C Z (w99 (Tgt.limit t) 0 100) Z Z Z (E Z (B.jj (val:=.pv (.slice (List.map eI [(qG (Tgt.bright t) 1 1000),(qG (Tgt.place t) 0 360),(qG (Tgt.length t) 1 1440),(qG (Tgt.from_ t) 0 1440),(qG (Tgt.to t) 0 1440),(qG (Tgt.limit t) 0 100)]))) Z (fun l=>Frz.arr l _ _ _ _ _) Z) (C Z (w100 [(qG (Tgt.bright t) 1 1000),(qG (Tgt.place t) 0 360),(qG (Tgt.length t) 1 1440),(qG (Tgt.from_ t) 0 1440),(qG (Tgt.to t) 0 1440),(qG (Tgt.limit t) 0 100)] (nB Z)) Z Z Z (Dr Z (by kernel_rfl) (Rt Z (leaf (val0:=vI (qP [(qG (Tgt.bright t) 1 1000),(qG (Tgt.place t) 0 360),(qG (Tgt.length t) 1 1440),(qG (Tgt.from_ t) 0 1440),(qG (Tgt.to t) 0 1440),(qG (Tgt.limit t) 0 100)])) (by kernel_rfl) (li (by exact first_ranged t)))))))))))))
end Go.Lens.Tb
end
section
namespace Go.Lens.Tm
open Go.Lens.Tb Go.Proofs
def kK (c:Int):Bool:=(((((decide (97<=c)&&decide (c<=122))||(decide (65<=c)&&decide (c<=90)))||(decide (48<=c)&&decide (c<=57)))||decide (c=46))||decide (c=45))||decide (c=47)||decide (c=95)
def permS (s:List UInt8):Bool:=s.all fun b=>kK (b.toNat:Int)
def chkF (f:Fld):Int:=bif !(qV (bsO f.1)) then 8 else bif decide (60<f.2.length) then 26 else bif !(permS f.2) then 1 else 0
def ordB (l:List Fld) (i:Nat):Bool:=decide (0<i)&&leS (l.getD i ([],[])).1 (l.getD (i-1) ([],[])).1
def fOne (l:List Fld) (i:Nat):Int:=if chkF (l.getD i ([],[]))=0 then (bif ordB l i then 11 else 0) else chkF (l.getD i ([],[]))
def fGo (l:List Fld):Nat->Nat->Int
 | 0,_=>0
 | n+1,i=>if fOne l i=0 then fGo l n (i+1) else fOne l i
def jv (l:List Fld):Int:=bif decide (24<l.length) then 5 else fGo l l.length 0
theorem dlt (a b:Int):decide (a<b)=!decide (b<=a):=by rw[zM];simp
theorem dne {α:Type} [DecidableEq α] (a b:α):decide (a≠b)=!decide (a=b):=by rw[zM];simp
theorem perm_not (c:Int):(!kK c)=((((((decide (c<97)||decide (122<c))&&(decide (c<65)||decide (90<c)))&&(decide (c<48)||decide (57<c)))&&decide (c≠46))&&decide (c≠45))&&decide (c≠47)&&decide (c≠95)):=by
 unfold kK
 simp only[dlt,dne,Bool.not_or,Bool.not_and]
theorem fGo_step {l:List Fld} {k:Nat} (hk:k<l.length) (h:fOne l k=0):fGo l (l.length-k) k=fGo l (l.length-(k+1)) (k+1):=by
 rw[show l.length-k=(l.length-(k+1))+1 by omega,fGo,if_pos h]
theorem fGo_err {l:List Fld} {k:Nat} (hk:k<l.length) (h:fOne l k≠0):fGo l (l.length-k) k=fOne l k:=by
 rw[show l.length-k=(l.length-(k+1))+1 by omega,fGo,if_neg h]
theorem permS_no {s:List UInt8} {k:Nat} (hk:k<s.length) (h:kK (byteAt (bsO s) k)=false):permS s=false:=by
 unfold permS
 rw[List.all_eq_false]
 refine⟨s.getD k 0,getD_mem hk,?_⟩
 change kK ((s.getD k 0).toNat:Int)=false at h
 rw[h];simp
theorem permS_yes {s:List UInt8} (h:∀ j,j<s.length->kK (byteAt (bsO s) j)=true):permS s=true:=by
 unfold permS
 rw[zp]
 intro b hb
 obtain⟨j,hj,rfl⟩:=List.getElem_of_mem hb
 have:=h j hj
 change kK ((s.getD j 0).toNat:Int)=true at this
 rw[ze,zm hj] at this
 exact this
theorem first_fld (l:List Fld) (i:Nat):qP [qF (!(qV (bsO (l.getD i ([],[])).1))) 8,qF (decide (60<(((l.getD i ([],[])).2.length:Nat):Int))) 26,qF (!(permS (l.getD i ([],[])).2)) 1,qF (bif decide (0<((i:Nat):Int)) then leS (l.getD i ([],[])).1 (l.getD (i-1) ([],[])).1 else false) 11]=fOne l i:=by
 unfold fOne chkF ordB qF
 have h1:decide (60<(((l.getD i ([],[])).2.length:Nat):Int))=decide (60<(l.getD i ([],[])).2.length):=by rw[zM];simp;omega
 have h2:decide (0<((i:Nat):Int))=decide (0<i):=by rw[zM];simp
 rw[h1,h2]
 cases qV (bsO (l.getD i ([],[])).1)<;>cases decide (60<(l.getD i ([],[])).2.length)<;>cases permS (l.getD i ([],[])).2<;>cases decide (0<i)<;>cases leS (l.getD i ([],[])).1 (l.getD (i-1) ([],[])).1<;>rfl
section
variable {l:List Fld} {k:Nat}
theorem f_bad (h:chkF (l.getD k ([],[]))≠0):fOne l k=chkF (l.getD k ([],[])):=by unfold fOne;rw[if_neg h]
theorem f_ordq {b:Bool} (h:(bif decide (0<((k:Nat):Int)) then leS (l.getD k ([],[])).1 (l.getD (k-1) ([],[])).1 else false)=b):ordB l k=b:=by
 rw[<-h]
 unfold ordB
 have h2:decide (0<((k:Nat):Int))=decide (0<k):=by rw[zM];simp
 rw[h2]
 cases decide (0<k)<;>rfl
theorem f_ord (h:¬chkF (l.getD k ([],[]))≠0) (h4:(bif decide (0<((k:Nat):Int)) then leS (l.getD k ([],[])).1 (l.getD (k-1) ([],[])).1 else false)=true):fOne l k=11:=by
 unfold fOne;rw[if_pos (zi.1 h),f_ordq h4];rfl
theorem f_ok (h:¬chkF (l.getD k ([],[]))≠0) (h4:(bif decide (0<((k:Nat):Int)) then leS (l.getD k ([],[])).1 (l.getD (k-1) ([],[])).1 else false)=false):fOne l k=0:=by
 unfold fOne;rw[if_pos (zi.1 h),f_ordq h4];rfl
theorem take_fld (l:List Fld) (k:Nat) (h:k<l.length):l.take (k+1)=l.take k++[l.getD k ([],[])]:=by
 rw[List.take_add_one,zm h,ze,zm h];rfl
theorem getF_skip {n:List UInt8} (hk:k<l.length) (h:¬(l.getD k ([],[])).1=n):jn n (l.drop k)=jn n (l.drop (k+1)):=by
 rw[drop_at l k ([],[]) hk]
 generalize l.getD k ([],[])=f at h
 obtain⟨a,x⟩:=f
 simp only[jn]
 rw[if_neg (fun e=>h e.symm)]
theorem getF_hit {n:List UInt8} (hk:k<l.length) (h:(l.getD k ([],[])).1=n):jn n (l.drop k)=some (l.getD k ([],[])).2:=by
 rw[drop_at l k ([],[]) hk]
 generalize l.getD k ([],[])=f at h
 obtain⟨a,x⟩:=f
 simp only[jn]
 rw[if_pos h.symm]
end
theorem eq_getD {α:Type} (z:α) {a b:List α} (h:a.length=b.length) (k:∀ j,j<a.length->a.getD j z=b.getD j z):a=b:=by
 apply List.ext_getElem h
 intro i h1 h2
 have:=k i h1
 rwa [ze,ze,zm h1,zm h2] at this
end Go.Lens.Tm
end
section
namespace Go.Lens.Tm
open Go.Lens.Tb Go.Proofs
variable [Lz]
set_option maxHeartbeats 2000000
set_option maxRecDepth 100000
attribute [local irreducible] TK PK T RG EfR Body CG
theorem by175:ty175.info.bytes=32:=by kernel_rfl
theorem fa175_0:fadQ tab 175 0=some 0:=by kernel_rfl
theorem in175:tab.info? 175=some ty175.info:=by kernel_rfl
theorem sz175:szT tab 175=some 2:=by kernel_rfl
theorem un60:tab.underlying 60=some (.slice 175):=by kernel_rfl
theorem w172 (c:Int):CKa 172 [.pv (.lit (.int .u8 c))] (vB (kK c)):=by
 refine cG qf172 Z (nB Z) Z (Eg Z Z (fun hc=>B.move Z) Z (Eg Z Z (fun hc=>B.leq (qy Z hc) Z) Z (E Z (B.pick Z Z Z (gdB Z) Z (qJ _)) (Eg Z Z (fun hc=>B.move Z) Z (Eg Z Z (fun hc=>B.geq (qy Z hc) Z) Z (Eg Z Z (fun hc=>B.move (qy Z hc)) Z (Eg Z Z (fun hc=>B.move Z) Z (Eg Z Z (fun hc=>B.leq (qy Z hc) Z) Z (Eg Z Z (fun hc=>B.pick (qy Z hc) Z Z (gdB Z) Z (kr hc)) Z (E Z (B.pick Z Z Z Z (gdB Z) (q7 _)) (Eg Z Z (fun hc=>B.move Z) Z (Eg Z Z (fun hc=>B.geq (qy Z hc) Z) Z (Eg Z Z (fun hc=>B.move (qy Z hc)) Z ?_)))))))))))))
 refine Eg Z Z (fun hc=>B.move Z) Z (Eg Z Z (fun hc=>B.leq (qy Z hc) Z) Z (Eg Z Z (fun hc=>B.pick (qy Z hc) Z Z (gdB Z) Z (kr hc)) Z (E Z (B.pick Z Z Z Z (gdB Z) (q7 _)) (Eg Z Z (fun hc=>B.move Z) Z (Eg Z Z (fun hc=>B.eql (qy Z hc) Z) Z (E Z (B.pick Z Z Z Z (gdB Z) (q7 _)) (Eg Z Z (fun hc=>B.move Z) Z (Eg Z Z (fun hc=>B.eql (qy Z hc) Z) Z (E Z (B.pick Z Z Z Z (gdB Z) (q7 _)) (Eg Z Z (fun hc=>B.move Z) Z (Eg Z Z (fun hc=>B.eql (qy Z hc) Z) Z (E Z (B.pick Z Z Z Z (gdB Z) (q7 _)) (Eg Z Z (fun hc=>B.move Z) Z ?_)))))))))))))
 exact Eg Z Z (fun hc=>B.eql (qy Z hc) Z) Z (E Z (B.pick Z Z Z Z (gdB Z) (q7 _)) (Rt Z (leaf (val0:=vB (bif (bif (bif (bif (bif (bif (bif (decide (97<=c)) then (decide (c<=122)) else false) then true else (bif (decide (65<=c)) then (decide (c<=90)) else false)) then true else (bif (decide (48<=c)) then (decide (c<=57)) else false)) then true else (decide (c=46))) then true else (decide (c=45))) then true else (decide (c=47))) then true else (decide (c=95)))) (by kernel_rfl) (lb (by simp only[kK,jA,jw])))))
theorem w118 (f:Fld):CKa 118 [.pv (.agg [pS (bsO f.1),pS (bsO f.2)])] (vI (chkF f)):=by
 refine cG qf118 Z (nB Z) Z (C Z (w94 (bsO f.1)) Z Z Z (Cb Z Z (fun h1=>?_) (fun h1=>?_)))
 ·exact Rt Z (leaf (val0:=vI 8) (by kernel_rfl) (li (by unfold chkF;(rw[h1];rfl))))
 refine E Z (B.lenB (a:=f.2) Z un9) (Cp Z Z (fun h2=>?_) (fun h2=>?_))
 ·exact Rt Z (leaf (val0:=vI 26) (by kernel_rfl) (li (by unfold chkF;(rw[h1,zl (by omega)];rfl))))
 refine l1 (fun (k:Nat)=>[(1,.bref 2 0),(3,vI k)]) (fun _=>[(2,.box 175 [vS (bsO f.1),vS (bsO f.2)])]) (fun k=>k<=f.2.length/\f.2.length<=60/\∀ j,j<k->kK (byteAt (bsO f.2) j)=true) (fun k=>f.2.length-k) 0 Z ?_ (sb Z Z Z) ?_
 · exact⟨zq _,by omega,fun j hj=>by omega⟩
 intro k hI0
 refine E Z (B.lenB (a:=f.2) Z un9) (Cp Z Z (fun h3=>?_) (fun h3=>?_))
 ·refine E Z (B.sidx (i:=k) Z Z un9 Z (show k<f.2.length from (by omega))) (C Z (w172 (byteAt (bsO f.2) k)) Z Z Z (Cb Z Z (fun h4=>?_) (fun h4=>?_)))
  ·exact Rt Z (leaf (val0:=vI 1) (by kernel_rfl) (li (by unfold chkF;(rw[h1,zk (by omega),permS_no (by omega) (bnot_t h4)];rfl))))
  refine E Z (B.add Z Z (by unfold R64;omega)) (pk Z (L1 (k+1) ?_ ?_ (sb Z Z Z)))
  · (refine⟨by omega,hI0.2.1,fun j hj=>?_⟩;rcases zy.1 hj with h|h;exact hI0.2.2 j h;subst h;exact bnot_f h4)
  · omega
 exact Rt Z (leaf (val0:=vI 0) (by kernel_rfl) (li (by unfold chkF;(rw[h1,zk (by omega),permS_yes fun j hj=>hI0.2.2 j (by omega)];rfl))))
theorem w38 (l:List Fld) (hl:l.length<=1000000000000000):CKa 38 [vL eF l] (vI (jv l)):=by
 refine cG qf38 Z (nB Z) Z (E Z (B.jh Z un60) (Cp Z Z (fun h1=>?_) (fun h1=>?_)))
 ·exact Rt Z (leaf (val0:=vI 5) (by kernel_rfl) (li (by (unfold jv;rw[zl (by omega)];rfl))))
 refine l1 (fun (k:Nat)=>[(0,vL eF l),(3,vI k)]) (fun _=>[]) (fun k=>k<=l.length/\l.length<=24/\jv l=fGo l (l.length-k) k) (fun k=>l.length-k) 0 Z ?_ (sb Z Z Z) ?_
 · (exact⟨zq _,by omega,by unfold jv;rw[zk (by omega)];rfl⟩)
 intro k hI0
 refine E Z (B.jh Z un60) (Cp Z Z (fun h2=>?_) (fun h2=>?_))
 ·refine E Z (B.idx (z:=([],[])) (i:=k) Z Z un60 sz175 (fun _=>rfl) Z (by omega)) (C Z (w118 (l.getD k ([],[]))) Z Z Z (Cp Z Z (fun h3=>?_) (fun h3=>?_)))
  ·exact Rt Z (leaf (val0:=vI (chkF (l.getD k ([],[])))) (by kernel_rfl) (li (by (rw[hI0.2.2,fGo_err (by omega) (by rw[f_bad h3];exact h3),f_bad h3]))))
  refine Eg Z Z (fun hc=>B.move Z) Z (Eg Z Z (fun hc=>B.move Z) Z (Eg Z Z (fun hc=>B.idx (z:=([],[])) (i:=k) (qy Z hc) (qy Z hc) un60 sz175 (fun _=>rfl) Z (by omega)) Z (Eg Z Z (fun hc=>B.fadP (qy Z hc) fa175_0 Z) Z (Eg Z Z (fun hc=>B.loadP (qy Z hc) ag9 sz9) Z (Eg Z Z (fun hc=>B.move Z) Z (Eg Z Z (fun hc=>B.move Z) Z (Eg Z Z (fun hc=>B.sub (qy Z hc) Z (by unfold R64;omega)) Z (Eg Z Z (fun hc=>B.idx (z:=([],[])) (i:=(k-1)) (qy Z hc) (qy Z hc) un60 sz175 (fun _=>rfl) (by (have hc2:=hc;simp at hc2;omega)) (by omega)) Z (Eg Z Z (fun hc=>B.fadP (qy Z hc) fa175_0 Z) Z (Eg Z Z (fun hc=>B.loadP (qy Z hc) ag9 sz9) Z (Eg Z Z (fun hc=>B.sleB (a:=(l.getD k ([],[])).1) (b:=(l.getD (k-1) ([],[])).1) (qy Z hc) (qy Z hc)) Z (E Z (B.pick Z Z Z (gdB Z) Z (qJ _)) (Dr Z (by kernel_rfl) (Cb Z Z (fun h4=>?_) (fun h4=>?_)))))))))))))))
  ·exact Rt Z (leaf (val0:=vI 11) (by kernel_rfl) (li (by (rw[hI0.2.2,fGo_err (by omega) (by rw[f_ord h3 h4];decide),f_ord h3 h4]))))
  refine E Z (B.add Z Z (by unfold R64;omega)) (pk Z (L1 (k+1) ?_ ?_ (sb Z Z Z)))
  · (refine⟨by omega,hI0.2.1,?_⟩;rw[hI0.2.2];exact fGo_step (by omega) (f_ok h3 h4))
  · omega
 exact Rt Z (leaf (val0:=vI 0) (by kernel_rfl) (li (by (rw[hI0.2.2,show l.length-k=0 by omega];rfl))))
theorem w53 (l:List Fld) (n:List UInt8) (hl:l.length<=1000000000000000):CKa 53 [vL eF l,vS (bsO n)] (.tup [vS (bsO (Option.getD (jn n l) [])),vB (Option.isSome (jn n l))]):=by
 refine cG qf53 Z (nB Z) Z (l1 (fun (k:Nat)=>[(0,vL eF l),(1,vS (bsO n)),(6,vI k)]) (fun _=>[]) (fun k=>k<=l.length/\jn n l=jn n (List.drop k l)) (fun k=>l.length-k) 0 Z ?_ (sb Z Z Z) ?_)
 · exact⟨zq _,rfl⟩
 intro k hI0
 refine E Z (B.jh Z un60) (Cp Z Z (fun h1=>?_) (fun h1=>?_))
 ·refine E Z (B.idx (z:=([],[])) (i:=k) Z Z un60 sz175 (fun _=>rfl) Z (by omega)) (E Z (B.seqB (a:=(l.getD k ([],[])).1) (b:=n) Z Z) (Cp Z Z (fun h2=>?_) (fun h2=>?_)))
  ·exact E Z (B.idx (z:=([],[])) (i:=k) Z Z un60 sz175 (fun _=>rfl) Z (by omega)) (Rt Z (leaf (val0:=.tup [vS (bsO (l.getD k ([],[])).2),vB true]) (by kernel_rfl) (tup2 (ls (by (rw[hI0.2,getF_hit (by omega) h2];rfl))) (lb (by (rw[hI0.2,getF_hit (by omega) h2];rfl))))))
  refine E Z (B.add Z Z (by unfold R64;omega)) (pk Z (L1 (k+1) ?_ ?_ (sb Z Z Z)))
  · (refine⟨by omega,?_⟩;rw[hI0.2];exact getF_skip (by omega) h2)
  · omega
 exact Rt Z (leaf (val0:=.tup [vS (bsO []),vB false]) (by kernel_rfl) (tup2 (ls (by (rw[hI0.2,zX (by omega)];rfl))) (lb (by (rw[hI0.2,zX (by omega)];rfl)))))
theorem w88 (l:List (List UInt8)) (n:List UInt8) (hl:l.length<=1000000000000000):CKa 88 [vL eN l,vS (bsO n)] (vB (List.any l (fun y=>decide (y=n)))):=by
 refine cG qf88 Z (nB Z) Z (l1 (fun (k:Nat)=>[(0,vL eN l),(1,vS (bsO n)),(5,vI k)]) (fun _=>[]) (fun k=>k<=l.length/\∀ j,j<k->¬(l.getD j []=n)) (fun k=>l.length-k) 0 Z ?_ (sb Z Z Z) ?_)
 · exact⟨zq _,fun j hj=>by omega⟩
 intro k hI0
 refine E Z (B.jh Z ji) (Cp Z Z (fun h1=>?_) (fun h1=>?_))
 ·refine E Z (B.idx (z:=[]) (i:=k) Z Z ji sz9 (fun _=>rfl) Z (by omega)) (E Z (B.seqB (a:=(l.getD k [])) (b:=n) Z Z) (Cp Z Z (fun h2=>?_) (fun h2=>?_)))
  ·exact Rt Z (leaf (val0:=vB true) (by kernel_rfl) (lb (by (exact (List.any_eq_true.2 ⟨_,getD_mem (z:=[]) (show k<l.length by omega),zl h2⟩).symm))))
  refine E Z (B.add Z Z (by unfold R64;omega)) (pk Z (L1 (k+1) ?_ ?_ (sb Z Z Z)))
  · (refine⟨by omega,fun j hj=>?_⟩;rcases zy.1 hj with h|h;exact hI0.2 j h;subst h;exact h2)
  · omega
 exact Rt Z (leaf (val0:=vB false) (by kernel_rfl) (lb (by (exact (any_getD_none [] (fun j hj=>zk (hI0.2 j (by omega)))).symm))))
end Go.Lens.Tm
end
section
namespace Go.Lens.Tm
open Go.Lens.Tb Go.Proofs
theorem permI_high {c:Int} (h:128<=c):kK c=false:=by
 unfold kK
 rw[zk (p:=c<=122) (by omega),zk (p:=c<=90) (by omega),zk (p:=c<=57) (by omega),zk (p:=c=46) (by omega),zk (p:=c=45) (by omega),zk (p:=c=47) (by omega),zk (p:=c=95) (by omega)]
 simp
theorem rune_perm {s:ByteArray} {p:Nat} (h:p<s.size):kK (((Utf8.decode s p).1:Nat):Int)=kK (byteAt s p)/\(kK (byteAt s p)=true->(Utf8.decode s p).2=1):=by
 rw[byteAt_get h]
 rcases Nat.lt_or_ge (s[p]'h).toNat 128 with ha|ha
 ·rw[decode_ascii s p h ha]
  exact⟨rfl,fun _=>rfl⟩
 have:=decode_high s p h ha
 rw[permI_high (by omega),permI_high (by omega)]
 exact⟨rfl,fun h=>by cases h⟩
theorem rune_pq {s:List UInt8} {p:Nat} (h:p<(bsO s).size) {b:Bool} (hb:((!(kK (((Utf8.decode (bsO s) p).1:Nat):Int)))==true)=b):kK (((s.getD p 0).toNat:Nat):Int)=!b:=by
 rw[(rune_perm h).1] at hb
 have hb:((!(kK (((s.getD p 0).toNat:Nat):Int)))==true)=b:=hb
 rw[<-hb]
 cases kK (((s.getD p 0).toNat:Nat):Int)<;>rfl
theorem rune_w {s:List UInt8} {p:Nat} (h:p<(bsO s).size) (hb:kK (((s.getD p 0).toNat:Nat):Int)=true):(Utf8.decode (bsO s) p).2=1:=(rune_perm h).2 hb
theorem perm_any (s:List UInt8):(!(List.any s (fun b=>!(kK ((b.toNat:Nat):Int)))))=permS s:=by
 unfold permS
 rw[List.not_any_eq_all_not]
 simp
end Go.Lens.Tm
end
section
namespace Go.Lens.Tm
open Go.Lens.Tb Go.Proofs
variable [Lz]
set_option maxHeartbeats 2000000
set_option maxRecDepth 100000
attribute [local irreducible] TK PK T RG EfR Body CG
theorem un4:tab.underlying 4=some (.bool):=by kernel_rfl
theorem w174 (c:Int):CKa 174 [.pv (.lit (.int .i32 c))] (vB (!(kK c))):=by
 refine cG qf174 Z (nB Z) Z (Eg Z Z (fun hc=>B.move Z) Z (Eg Z Z (fun hc=>B.gtr (qy Z hc) Z) Z (E Z (B.pick Z Z Z Z (gdB Z) (q7 _)) (Eg Z Z (fun hc=>B.move Z) Z (Eg Z Z (fun hc=>B.lss (qy Z hc) Z) Z (Eg Z Z (fun hc=>B.move (qy Z hc)) Z (Eg Z Z (fun hc=>B.move Z) Z (Eg Z Z (fun hc=>B.gtr (qy Z hc) Z) Z (Eg Z Z (fun hc=>B.pick (qy Z hc) Z Z Z (gdB Z) (pick_or2 hc)) Z (E Z (B.pick Z Z Z (gdB Z) Z (qJ _)) (Eg Z Z (fun hc=>B.move Z) Z (Eg Z Z (fun hc=>B.lss (qy Z hc) Z) Z (Eg Z Z (fun hc=>B.move (qy Z hc)) Z ?_)))))))))))))
 refine Eg Z Z (fun hc=>B.move Z) Z (Eg Z Z (fun hc=>B.gtr (qy Z hc) Z) Z (Eg Z Z (fun hc=>B.pick (qy Z hc) Z Z Z (gdB Z) (pick_or2 hc)) Z (E Z (B.pick Z Z Z (gdB Z) Z (qJ _)) (Eg Z Z (fun hc=>B.move Z) Z (Eg Z Z (fun hc=>B.neq (qy Z hc) Z) Z (E Z (B.pick Z Z Z (gdB Z) Z (qJ _)) (Eg Z Z (fun hc=>B.move Z) Z (Eg Z Z (fun hc=>B.neq (qy Z hc) Z) Z (E Z (B.pick Z Z Z (gdB Z) Z (qJ _)) (Eg Z Z (fun hc=>B.move Z) Z (Eg Z Z (fun hc=>B.neq (qy Z hc) Z) Z (E Z (B.pick Z Z Z (gdB Z) Z (qJ _)) (Eg Z Z (fun hc=>B.move Z) Z ?_)))))))))))))
 exact Eg Z Z (fun hc=>B.neq (qy Z hc) Z) Z (E Z (B.pick Z Z Z (gdB Z) Z (qJ _)) (Rt Z (leaf (val0:=vB (bif (bif (bif (bif (bif (bif (bif (decide (c<97)) then true else (decide (122<c))) then (bif (decide (c<65)) then true else (decide (90<c))) else false) then (bif (decide (c<48)) then true else (decide (57<c))) else false) then (decide (c≠46)) else false) then (decide (c≠45)) else false) then (decide (c≠47)) else false) then (decide (c≠95)) else false)) (by kernel_rfl) (lb (by rw[perm_not];simp only[jA,jw])))))
theorem w292 (s:List UInt8) (hl:s.length<=1000000000000000):CKa 292 [vS (bsO s),.pv (.fn (.func 174) [] []),vB true] (vI (kI (fun b=>!(kK ((b.toNat:Nat):Int))) s)):=by
 refine cG qf292 Z (nB Z) Z (E Z (B.rangeS Z un9 Z Z) (l1 (fun (p:Nat)=>[(1,.pv (.fn (.func 174) [] [])),(2,vB true),(10,.bref 11 0)]) (fun p=>[(11,.siter (bsO s) p)]) (fun p=>p<=s.length/\∀ j,j<p->kK (((s.getD j 0).toNat:Nat):Int)=true) (fun p=>s.length-p) 0 Z ?_ (sb Z Z Z) ?_))
 · exact⟨zq _,fun j hj=>by omega⟩
 intro p hI0
 refine Nx Z Z Z (fun h1=>?_) (fun h1=>?_)
 ·refine CT Z Z (C Z (w174 (((Utf8.decode (bsO s) p).1:Nat):Int)) Z Z Z (E Z (B.bqB Z Z un4) (Cb Z Z (fun h2=>?_) (fun h2=>?_))))
  ·exact Rt Z (leaf (val0:=vI p) (by kernel_rfl) (li (by (have hn:=rune_pq h1 h2;have hz:p<s.length:=h1;exact (Za (p:=(fun b=>!(kK ((b.toNat:Nat):Int)))) (l:=s) (z:=0) p hz (fun j hj=>by rw[hI0.2 j hj];rfl) (by rw[hn];rfl)).symm))))
  refine pk Z (L1 (p+(Utf8.decode (bsO s) p).2) ?_ ?_ (sb Z Z Z))
  · (have hn:=rune_pq h1 h2;have hz:p<s.length:=h1;rw[rune_w h1 hn];refine⟨by omega,fun j hj=>?_⟩;rcases zy.1 hj with h|h;exact hI0.2 j h;subst h;exact hn)
  · (have hn:=rune_pq h1 h2;have hz:p<s.length:=h1;rw[rune_w h1 hn];omega)
 exact CF Z Z (Rt Z (leaf (val0:=vI (-1)) (by kernel_rfl) (li (by (have hz:¬p<s.length:=h1;exact (kG (p:=(fun b=>!(kK ((b.toNat:Nat):Int)))) (l:=s) (z:=0) fun j hj=>by rw[hI0.2 j (by omega)];rfl).symm)))))
theorem w247 (s:List UInt8) (hl:s.length<=1000000000000000):CKa 247 [vS (bsO s),.pv (.fn (.func 174) [] [])] (vI (kI (fun b=>!(kK ((b.toNat:Nat):Int))) s)):=by
 exact cG qf247 Z (nB Z) Z (C Z (w292 s (by omega)) Z Z Z (Rt Z (leaf Z Z)))
theorem w173 (s:List UInt8) (hl:s.length<=1000000000000000):CKa 173 [vS (bsO s),.pv (.fn (.func 174) [] [])] (vB (List.any s (fun b=>!(kK ((b.toNat:Nat):Int))))):=by
 exact cG qf173 Z (nB Z) Z (C Z (w247 s (by omega)) Z Z Z (Rt Z (leaf (val0:=vB (decide (0<=(kI (fun b=>!(kK ((b.toNat:Nat):Int))) s)))) (by kernel_rfl) (lb (by exact j5 s)))))
theorem w120 (s:List UInt8) (hl:s.length<=1000000000000000):CKa 120 [vS (bsO s)] (vB (permS s)):=by
 exact cG qf120 Z (nB Z) Z (C Z (w173 s (by omega)) Z Z Z (Rt Z (leaf (val0:=vB (!(List.any s (fun b=>!(kK ((b.toNat:Nat):Int)))))) (by kernel_rfl) (lb (by exact perm_any s)))))
theorem w41 (l:List Fld) (hl:l.length<=1000000000000000) (hc:∀ f∈l,f.2.length<=1000000000000000):CKa 41 [vL eF l] (vI (jv l)):=by
 refine cG qf41 Z (nB Z) Z (E Z (B.jh Z un59) (Cp Z Z (fun h1=>?_) (fun h1=>?_)))
 ·exact Rt Z (leaf (val0:=vI 5) (by kernel_rfl) (li (by (unfold jv;rw[zl (by omega)];rfl))))
 refine E Z (B.jh Z un59) (l1 (fun (k:Nat)=>[(0,vL eF l),(10,vL eF l),(11,vI l.length),(12,vI k)]) (fun _=>[]) (fun k=>k<=l.length/\l.length<=24/\jv l=fGo l (l.length-k) k) (fun k=>l.length-k) 0 Z ?_ (sb Z Z Z) ?_)
 · (exact⟨zq _,by omega,by unfold jv;rw[zk (by omega)];rfl⟩)
 intro k hI0
 refine Cp Z Z (fun h2=>?_) (fun h2=>?_)
 ·refine E Z (B.idx (z:=([],[])) (i:=k) Z Z un59 sz174 (fun _=>rfl) Z (by omega)) (E Z (B.sub Z Z (by unfold R64;omega)) (E Z (B.max Z Z) (E Z (B.idx (z:=([],[])) (i:=(k-1)) Z Z un59 sz174 (fun _=>rfl) (by omega) (by omega)) ?_)))
  have hck:=hc _ (getD_mem (l:=l) (k:=k) (z:=([],[])) (by omega))
  refine C Z (w104 (bsO (l.getD k ([],[])).1)) Z Z Z (E Z (B.lenB (a:=(l.getD k ([],[])).2) Z un9) (C Z (w101 (decide (60<((List.length (l.getD k ([],[])).2:Nat):Int))) 26) Z Z Z (C Z (w120 (l.getD k ([],[])).2 (by omega)) Z Z Z (C Z (w101 (!(permS (l.getD k ([],[])).2)) 1) Z Z Z (Eg Z Z (fun hc=>B.Z9 Z fa174_0 Z) Z (Eg Z Z (fun hc=>B.jP (qy Z hc) Z Z ag9 sz9 Z) Z (Eg Z Z (fun hc=>B.Z9 Z fa174_0 Z) Z (Eg Z Z (fun hc=>B.jP (qy Z hc) Z Z ag9 sz9 Z) Z (Eg Z Z (fun hc=>B.sleB (a:=(l.getD k ([],[])).1) (b:=(l.getD (k-1) ([],[])).1) (qy Z hc) (qy Z hc)) Z (E Z (B.pick Z Z Z (gdB Z) Z (qJ _)) (C Z (w101 (bif (decide (0<(k:Int))) then (leS (l.getD k ([],[])).1 (l.getD (k-1) ([],[])).1) else false) 11) Z Z Z (E Z (B.jj (val:=.pv (.slice (List.map eI [(qF (!(qV (bsO (l.getD k ([],[])).1))) 8),(qF (decide (60<((List.length (l.getD k ([],[])).2:Nat):Int))) 26),(qF (!(permS (l.getD k ([],[])).2)) 1),(qF (bif (decide (0<(k:Int))) then (leS (l.getD k ([],[])).1 (l.getD (k-1) ([],[])).1) else false) 11)]))) Z (fun l=>Frz.arr l _ _ _ _ _) Z) (C Z (w100 [(qF (!(qV (bsO (l.getD k ([],[])).1))) 8),(qF (decide (60<((List.length (l.getD k ([],[])).2:Nat):Int))) 26),(qF (!(permS (l.getD k ([],[])).2)) 1),(qF (bif (decide (0<(k:Int))) then (leS (l.getD k ([],[])).1 (l.getD (k-1) ([],[])).1) else false) 11)] (nB Z)) Z Z Z ?_)))))))))))))
  refine Dr Z (by kernel_rfl) (Cp Z Z (fun h3=>?_) (fun h3=>?_))
  ·exact Rt Z (leaf (val0:=vI (qP [(qF (!(qV (bsO (l.getD k ([],[])).1))) 8),(qF (decide (60<((List.length (l.getD k ([],[])).2:Nat):Int))) 26),(qF (!(permS (l.getD k ([],[])).2)) 1),(qF (bif (decide (0<(k:Int))) then (leS (l.getD k ([],[])).1 (l.getD (k-1) ([],[])).1) else false) 11)])) (by kernel_rfl) (li (by (rw[first_fld] at h3 ⊢;rw[hI0.2.2,fGo_err (by omega) h3]))))
  refine E Z (B.add Z Z (by unfold R64;omega)) (pk Z (L1 (k+1) ?_ ?_ (sb Z Z Z)))
  · (refine⟨by omega,hI0.2.1,?_⟩;rw[hI0.2.2];rw[first_fld] at h3;exact fGo_step (by omega) (zi.1 h3))
  · omega
 exact Rt Z (leaf (val0:=vI 0) (by kernel_rfl) (li (by (rw[hI0.2.2,show l.length-k=0 by omega];rfl))))
end Go.Lens.Tm
end
section
namespace Go.Lens.Tm
open Go.Lens.Tb Go.Proofs
def insGo (x:List UInt8):List (List UInt8)->List (List UInt8)
 | []=>[x]
 | y::l=>bif ltS y x then y::insGo x l else x::y::l
def insS (x:List UInt8) (l:List (List UInt8)):List (List UInt8):=bif List.any l (fun y=>decide (y=x)) then l else insGo x l
theorem insGo_at (x:List UInt8):∀ (l:List (List UInt8)) (k:Nat),k<=l.length->(∀ j,j<k->ltS (l.getD j []) x=true)->(k<l.length->ltS (l.getD k []) x=false)->insGo x l=(l.take k++[x])++l.drop k
 | [],k,hk,_,_=>by
  have:k=0:=by simpa using hk
  subst this;rfl
 | y::l,0,_,_,h=>by
  have h0:ltS y x=false:=h (by simp)
  simp only[insGo,h0,cond_false];rfl
 | y::l,k+1,hk,h1,h2=>by
  have h0:ltS y x=true:=h1 0 (by omega)
  simp only[insGo,h0,cond_true]
  rw[insGo_at x l k (by simpa using hk) (fun j hj=>by simpa using h1 (j+1) (by omega)) (fun hj=>by simpa using h2 (by simpa using hj))]
  simp
theorem insS_len (x:List UInt8) (l:List (List UInt8)):(insS x l).length<=l.length+1:=by
 unfold insS
 cases List.any l (fun y=>decide (y=x)) with
 | true=>simp
 | false=>
  have:∀ l:List (List UInt8),(insGo x l).length=l.length+1:=by
   intro l
   induction l with
   | nil=>rfl
   | cons y l ih=>
    simp only[insGo]
    cases ltS y x<;>simp[ih]
  simp[this]
theorem ins_q {l:List (List UInt8)} {x:List UInt8} {k:Nat} {b:Bool} (hk:k<l.length) (h:(bif decide (((k:Nat):Int)<((l.length:Nat):Int)) then ltS (l.getD k []) x else false)=b):ltS (l.getD k []) x=b:=by
 rw[zl (by omega)] at h;exact h
theorem ins_lt {l:List (List UInt8)} {x:List UInt8} {k:Nat} (h:(bif decide (((k:Nat):Int)<((l.length:Nat):Int)) then ltS (l.getD k []) x else false)=true):k<l.length:=by
 by_cases hk:k<l.length
 ·exact hk
 rw[zk (by omega)] at h;cases h
def Zt:List UInt8->List UInt8->List (List UInt8)
 | acc,[]=>[acc]
 | acc,c::r=>bif decide (((c.toNat:Nat):Int)=32) then acc::Zt [] r else Zt (acc++[c]) r
def jZ (s:List UInt8):List (List UInt8):=Zt [] s
theorem mid_snoc {s:List UInt8} {i f:Nat} (hf:f<=i) (hi:i<s.length):(s.take (i+1)).drop f=(s.take i).drop f++[s.getD i 0]:=by
 have e:s.take (i+1)=s.take i++[s.getD i 0]:=by
  rw[List.take_add_one,zm hi,ze,zm hi];rfl
 rw[e,List.drop_append_of_le_length (by rw[zn];omega)]
theorem spl_no {s:List UInt8} {i f:Nat} (hf:f<=i) (hi:i<s.length) (h:¬((s.getD i 0).toNat:Int)=32):Zt ((s.take i).drop f) (s.drop i)=Zt ((s.take (i+1)).drop f) (s.drop (i+1)):=by
 rw[drop_at s i 0 hi,Zt,zk h,cond_false,mid_snoc hf hi]
theorem spl_yes {s:List UInt8} {i f:Nat} (hi:i<s.length) (h:((s.getD i 0).toNat:Int)=32):Zt ((s.take i).drop f) (s.drop i)=(s.take i).drop f::Zt ((s.take (i+1)).drop (i+1)) (s.drop (i+1)):=by
 rw[drop_at s i 0 hi,Zt,zl h,cond_true]
 congr 2
 rw[zX (by rw[zn];omega)]
theorem spl_end {s:List UInt8} {i f:Nat} (hi:i=s.length):Zt ((s.take i).drop f) (s.drop i)=[(s.take i).drop f]:=by
 have e:s.drop i=[]:=zX (by omega)
 rw[e];rfl
def SplI (s:List UInt8) (i f:Nat) (out:List (List UInt8)):Prop:=f<=i/\out.length<=i/\((i<=s.length/\jZ s=out++Zt ((s.take i).drop f) (s.drop i))\/(i=s.length+1/\jZ s=out))
theorem splI0 (s:List UInt8):SplI s 0 0 []:=⟨zz _,zq _,.inl ⟨zq _,rfl⟩⟩
theorem spl_at {s:List UInt8} {i f:Nat} {out:List (List UInt8)} (h:SplI s i f out) (hi:((i:Nat):Int)<=((s.length:Nat):Int)):f<=i/\out.length<=i/\i<=s.length/\jZ s=out++Zt ((s.take i).drop f) (s.drop i):=by
 obtain⟨h1,h2,⟨h3,h4⟩|⟨h3,_⟩⟩:=h
 ·exact⟨h1,h2,h3,h4⟩
 omega
theorem spl_out {s:List UInt8} {i f:Nat} {out:List (List UInt8)} (h:SplI s i f out) (hi:¬((i:Nat):Int)<=((s.length:Nat):Int)):out=jZ s:=by
 obtain⟨_,_,⟨h3,_⟩|⟨_,h4⟩⟩:=h
 ·omega
 exact h4.symm
theorem spl_c {s:List UInt8} {i:Nat} (hi:i<=s.length) {b:Bool} (h:(bif decide (((i:Nat):Int)=((s.length:Nat):Int)) then true else decide ((byteAt (bsO s) i)=32))=b) :
 (b=true->i=s.length\/(i<s.length/\((s.getD i 0).toNat:Int)=32))/\(b=false->i<s.length/\¬((s.getD i 0).toNat:Int)=32):=by
 have e:byteAt (bsO s) i=((s.getD i 0).toNat:Int):=rfl
 rw[e,jA] at h
 constructor
 ·rintro rfl
  simp only[Bool.or_eq_true,zf] at h
  rcases h with h|h
  ·exact .inl (by omega)
  by_cases hq:i=s.length
  ·exact .inl hq
  exact .inr ⟨by omega,h⟩
 rintro rfl
 simp only[qc,zH] at h
 exact⟨by omega,h.2⟩
theorem spl_stepY {s:List UInt8} {i f:Nat} {out:List (List UInt8)} (h:SplI s i f out) (hi:((i:Nat):Int)<=((s.length:Nat):Int)) (h3:(bif decide (((i:Nat):Int)=((s.length:Nat):Int)) then true else decide ((byteAt (bsO s) i)=32))=true):SplI s (i+1) (i+1) (out++[(s.take i).drop f]):=by
 obtain⟨h1,h2,h4,h5⟩:=spl_at h hi
 refine⟨zz _,by simp only[za,zb,zd];omega,?_⟩
 rcases (spl_c h4 h3).1 rfl with hq|⟨hq,hc⟩
 ·right;rw[spl_end hq] at h5;exact⟨by omega,h5⟩
 left;rw[spl_yes hq hc] at h5
 exact⟨by omega,by rw[h5,z7];rfl⟩
theorem spl_stepN {s:List UInt8} {i f:Nat} {out:List (List UInt8)} (h:SplI s i f out) (hi:((i:Nat):Int)<=((s.length:Nat):Int)) (h3:(bif decide (((i:Nat):Int)=((s.length:Nat):Int)) then true else decide ((byteAt (bsO s) i)=32))=false):SplI s (i+1) f out:=by
 obtain⟨h1,h2,h4,h5⟩:=spl_at h hi
 obtain⟨hq,hc⟩:=(spl_c h4 h3).2 rfl
 exact⟨by omega,by omega,.inl ⟨by omega,by rw[h5,spl_no h1 hq hc]⟩⟩
def fldP (f:Fld):List UInt8:=(f.1++[61])++f.2
def prtK (l:List Fld):Nat->List UInt8
 | 0=>[]
 | k+1=>((bif decide (0<k) then prtK l k++[32] else prtK l k)++(l.getD k ([],[])).1++[61])++(l.getD k ([],[])).2
def prtF (l:List Fld):List UInt8:=prtK l l.length
theorem prtK_len (l:List Fld) (N:Nat) (h:∀ f∈l,f.1.length<=N/\f.2.length<=N):∀ k,k<=l.length->(prtK l k).length<=k*(2*N+2)
 | 0,_=>by simp[prtK]
 | k+1,hk=>by
  have h1:=prtK_len l N h k (by omega)
  have h2:=h _ (getD_mem (l:=l) (k:=k) (z:=([],[])) (by omega))
  simp only[prtK]
  rw[Nat.add_mul]
  cases decide (0<k)<;>simp only[cond_true,cond_false,za,zb,zd]<;>omega
end Go.Lens.Tm
end
section
namespace Go.Lens.Tm
open Go.Lens.Tb Go.Proofs
variable [Lz]
set_option maxHeartbeats 2000000
set_option maxRecDepth 100000
attribute [local irreducible] TK PK T RG EfR Body CG
theorem w178 (l:List (List UInt8)) (n:List UInt8) (hl:l.length<=1000000):CKa 178 [vL eN l,vS (bsO n)] (vL eN (insS n l)):=by
 refine cG qf178 Z (nB Z) Z (E Z (B.j8 (enc:=eN) Z) (C Z (w88 l n (by omega)) Z Z Z (Cb Z Z (fun h1=>?_) (fun h1=>?_))))
 ·exact Rt Z (leaf (val0:=vL eN l) (by kernel_rfl) (lsl (by (unfold insS;rw[h1];rfl))))
 refine l1 (fun (k:Nat)=>[(0,vL eN l),(1,vS (bsO n)),(5,vI k)]) (fun _=>[]) (fun k=>k<=l.length/\∀ j,j<k->ltS (l.getD j []) n=true) (fun k=>l.length-k) 0 Z ?_ (sb Z Z Z) ?_
 · exact⟨zq _,fun j hj=>by omega⟩
 intro k hI0
 refine E Z (B.jh Z ji) (Eg Z Z (fun hc=>B.move Z) Z (Eg Z Z (fun hc=>B.move Z) Z (Eg Z Z (fun hc=>B.idx (z:=[]) (i:=k) (qy Z hc) (qy Z hc) ji sz9 (fun _=>rfl) Z (by (have hc2:=hc;simp at hc2;omega))) Z (Eg Z Z (fun hc=>B.loadP (qy Z hc) ag9 sz9) Z (Eg Z Z (fun hc=>B.move Z) Z (Eg Z Z (fun hc=>B.sltB (a:=(l.getD k [])) (b:=n) (qy Z hc) (qy Z hc)) Z (E Z (B.pick Z Z Z (gdB Z) Z (qJ _)) (Cb Z Z (fun h2=>?_) (fun h2=>?_)))))))))
 ·refine E Z (B.add Z Z (by unfold R64;omega)) (pk Z (L1 (k+1) ?_ ?_ (sb Z Z Z)))
  · (have hkl:=ins_lt h2;refine⟨by omega,fun j hj=>?_⟩;rcases zy.1 hj with h|h;exact hI0.2 j h;subst h;exact ins_q hkl h2)
  · (have hkl:=ins_lt h2;omega)
 exact E Z (B.run Z) (E Z (B.slT (j:=k) Z Z ji sz9 Z (by omega)) (E Z (B.append (enc:=eN) (l:=[]) (r:=(List.take k l)) Z Z Z ji in9 Z (fun _=>rfl) by9 (by (simp only[za,zb,zd,zn,zo];omega))) (E Z (B.jj (val:=.pv (.slice (List.map eN [n]))) Z (fun l=>Frz.arr l _ _ _ _ _) Z) (E Z (B.append Z Z Z ji in9 Z (fun _=>rfl) by9 (by (simp only[za,zb,zd,zn,zo];omega))) (E Z (B.slDL (i:=k) Z Z ji sz9 (fun _=>rfl) Z (by omega)) (E Z (B.append Z Z Z ji in9 Z (fun _=>rfl) by9 (by (simp only[za,zb,zd,zn,zo];omega))) (Dr Z (by kernel_rfl) (Fz 9999 4 Z Z Z (Rt Z (leaf (val0:=vL eN (((List.take k l)++[n])++(List.drop k l))) (by kernel_rfl) (lsl (by (unfold insS;rw[h1,cond_false];exact (insGo_at n l k hI0.1 hI0.2 fun hk=>ins_q hk h2).symm)))))))))))))
theorem w119 (s:List UInt8) (hl:s.length<=1000000):CKa 119 [vS (bsO s)] (vL eN (jZ s)):=by
 refine cG qf119 Z (nB Z) Z (E Z (B.j8 (enc:=eN) Z) (E Z (B.adopt 4 1 9 Z Z) (l4 (fun (i:Nat) (f:Nat) (v:Nat) (out:List (List UInt8))=>[(0,vS (bsO s)),(3,.aref 4 v),(4,vI f),(5,vI i)]) (fun _ _ v out=>[(4,.arr v 1 9 (List.map eN out))]) (fun i f _ out=>SplI s i f out) (fun i _ _ _=>s.length+1-i) 0 0 0 [] Z ?_ (sb Z Z Z) ?_)))
 · exact splI0 s
 intro i f v out hI0
 refine E Z (B.lenB (a:=s) Z un9) (Cp Z Z (fun h1=>?_) (fun h1=>?_))
 ·have hsp:=spl_at hI0 h1
  refine E Z (B.lenB (a:=s) Z un9) (Eg Z Z (fun hc=>B.move Z) Z (Eg Z Z (fun hc=>B.move Z) Z (Eg Z Z (fun hc=>B.sidx (i:=i) (qy Z hc) (qy Z hc) un9 Z (show i<s.length from (by (have hc2:=hc;simp at hc2;omega)))) Z (Eg Z Z (fun hc=>B.eql (qy Z hc) Z) Z (E Z (B.pick Z Z Z Z (gdB Z) (q7 _)) (Cb Z Z (fun h2=>?_) (fun h2=>?_)))))))
  ·refine E Z (B.slMB (a:=s) (i:=f) (j:=i) Z Z Z un9 Z Z (by omega) (by omega)) (E Z (B.jj (val:=.pv (.slice (List.map eN [(List.drop f (List.take i s))]))) Z (fun l=>Frz.arr l _ _ _ _ _) Z) (E Z (B.append Z Z Z ji in9 Z (fun _=>rfl) by9 (by (simp only[za,zb,zd,zn,zo];omega))) (E Z (B.add Z Z (by unfold R64;omega)) (E Z (B.add Z Z (by unfold R64;omega)) (pk Z (L4 (i+1) (i+1) (v+1) (out++[(List.drop f (List.take i s))]) ?_ ?_ (sb Z Z Z)))))))
   · exact spl_stepY hI0 h1 h2
   · omega
  refine E Z (B.add Z Z (by unfold R64;omega)) (pk Z (L4 (i+1) f v out ?_ ?_ (sb Z Z Z)))
  · exact spl_stepN hI0 h1 h2
  · omega
 exact Fz 9 3 Z Z Z (Rt Z (leaf (val0:=vL eN out) (by kernel_rfl) (lsl (by exact spl_out hI0 h1))))
theorem w39 (l:List Fld) (hl:l.length<=1000) (hb:∀ f∈l,f.1.length<=1000000/\f.2.length<=1000000):CKa 39 [vL eF l] (vS (bsO (prtF l))):=by
 refine cG qf39 Z (nB Z) Z (l2 (fun (k:Nat) (q:List UInt8)=>[(0,vL eF l),(3,vS (bsO q)),(4,vI k)]) (fun _ _=>[]) (fun k q=>k<=l.length/\q=prtK l k) (fun k _=>l.length-k) 0 [] Z ?_ (sb Z Z Z) ?_)
 · exact⟨zq _,rfl⟩
 intro k q hI0
 refine E Z (B.jh Z un60) (Cp Z Z (fun h1=>?_) (fun h1=>?_))
 ·have hkb:=hb _ (getD_mem (l:=l) (k:=k) (z:=([],[])) (by omega))
  have hpl:=prtK_len l 1000000 hb k (by omega)
  rw[<-hI0.2] at hpl
  have hpl2:q.length<=1000*(2*1000000+2):=qi hpl (Nat.mul_le_mul_right _ (by omega))
  refine Cp Z Z (fun h2=>?_) (fun h2=>?_)
  ·refine E Z (B.catB (a:=q) (b:=[32]) Z Z (by (simp only[za,zb,zd];omega))) (E Z (B.idx (z:=([],[])) (i:=k) Z Z un60 sz175 (fun _=>rfl) Z (by omega)) (E Z (B.catB (a:=(q++[32])) (b:=(l.getD k ([],[])).1) Z Z (by (simp only[za,zb,zd];omega))) (E Z (B.catB (a:=((q++[32])++(l.getD k ([],[])).1)) (b:=[61]) Z Z (by (simp only[za,zb,zd];omega))) (E Z (B.idx (z:=([],[])) (i:=k) Z Z un60 sz175 (fun _=>rfl) Z (by omega)) (E Z (B.catB (a:=(((q++[32])++(l.getD k ([],[])).1)++[61])) (b:=(l.getD k ([],[])).2) Z Z (by (simp only[za,zb,zd];omega))) (Dr Z (by kernel_rfl) (E Z (B.add Z Z (by unfold R64;omega)) (pk Z (L2 (k+1) ((((q++[32])++(l.getD k ([],[])).1)++[61])++(l.getD k ([],[])).2) ?_ ?_ (sb Z Z Z))))))))))
   · (refine⟨by omega,?_⟩;(rw[prtK,<-hI0.2,zl (by omega)];rfl))
   · omega
  refine E Z (B.idx (z:=([],[])) (i:=k) Z Z un60 sz175 (fun _=>rfl) Z (by omega)) (E Z (B.catB (a:=q) (b:=(l.getD k ([],[])).1) Z Z (by omega)) (E Z (B.catB (a:=(q++(l.getD k ([],[])).1)) (b:=[61]) Z Z (by (simp only[za,zb,zd];omega))) (E Z (B.idx (z:=([],[])) (i:=k) Z Z un60 sz175 (fun _=>rfl) Z (by omega)) (E Z (B.catB (a:=((q++(l.getD k ([],[])).1)++[61])) (b:=(l.getD k ([],[])).2) Z Z (by (simp only[za,zb,zd];omega))) (Dr Z (by kernel_rfl) (E Z (B.add Z Z (by unfold R64;omega)) (pk Z (L2 (k+1) (((q++(l.getD k ([],[])).1)++[61])++(l.getD k ([],[])).2) ?_ ?_ (sb Z Z Z)))))))))
  · (refine⟨by omega,?_⟩;(rw[prtK,<-hI0.2,zk (by omega)];rfl))
  · omega
 exact Rt Z (leaf (val0:=vS (bsO q)) (by kernel_rfl) (ls (by rw[hI0.2,show k=l.length by omega];rfl)))
end Go.Lens.Tm
end
section
namespace Go.Lens.Tm
open Go.Lens.Tb Go.Proofs
def cutP:List UInt8->Option Fld
 | []=>none
 | c::r=>bif decide (((c.toNat:Nat):Int)=61) then some ([],r) else (cutP r).map fun f=>(c::f.1,f.2)
theorem cutP_at:∀ (p:List UInt8) (a:Nat),a<=p.length->(∀ j,j<a->¬((p.getD j 0).toNat:Int)=61)->
  (a=p.length->cutP p=none)/\(a<p.length->((p.getD a 0).toNat:Int)=61->cutP p=some (p.take a,p.drop (a+1)))
 | [],a,ha,_=>⟨fun _=>rfl,fun h=>by simp at h⟩
 | c::r,0,_,_=>by
  refine⟨fun h=>by simp at h,fun _ h=>?_⟩
  have h:((c.toNat:Nat):Int)=61:=h
  simp[cutP,h]
 | c::r,a+1,ha,hn=>by
  have h0:¬((c.toNat:Nat):Int)=61:=hn 0 (by omega)
  have ih:=cutP_at r a (by simpa using ha) fun j hj=>by simpa using hn (j+1) (by omega)
  simp only[cutP,zk h0,cond_false]
  refine⟨fun h=>?_,fun h1 h2=>?_⟩
  ·rw[ih.1 (by simpa using h)];rfl
  rw[ih.2 (by simpa using h1) (by simpa using h2)];rfl
def Z8:List (List UInt8)->Option (List Fld)
 | []=>some []
 | p::r=>match cutP p with
  | none=>none
  | some f=>(Z8 r).map (f::·)
def kW (s:List UInt8):List Fld×Int:=if s=[] then ([],0) else match Z8 (jZ s) with
 | none=>([],25)
 | some l=>if jv l=0 then (l,0) else ([],jv l)
theorem par_none {P:List (List UInt8)} {k:Nat} {out:List Fld} (hI:Z8 P=(Z8 (P.drop k)).map (out++·)) (hk:k<P.length) (h:cutP (P.getD k [])=none):Z8 P=none:=by
 rw[hI,drop_at P k [] hk,Z8,h];rfl
theorem par_some {P:List (List UInt8)} {k:Nat} {out:List Fld} {f:Fld} (hI:Z8 P=(Z8 (P.drop k)).map (out++·)) (hk:k<P.length) (h:cutP (P.getD k [])=some f):Z8 P=(Z8 (P.drop (k+1))).map ((out++[f])++·):=by
 rw[hI,drop_at P k [] hk,Z8,h]
 simp only[Option.map_map]
 congr 1
 funext r;simp
theorem par_end {P:List (List UInt8)} {k:Nat} {out:List Fld} (hI:Z8 P=(Z8 (P.drop k)).map (out++·)) (hk:P.length<=k):Z8 P=some out:=by
 rw[hI,zX hk];simp[Z8]
theorem cut_q {p:List UInt8} {a:Nat} {b:Bool} (h:(bif decide (((a:Nat):Int)<((p.length:Nat):Int)) then decide ((byteAt (bsO p) a)≠61) else false)=b) :
 (b=true->a<p.length/\¬((p.getD a 0).toNat:Int)=61)/\(b=false->a<p.length->((p.getD a 0).toNat:Int)=61):=by
 have e:byteAt (bsO p) a=((p.getD a 0).toNat:Int):=rfl
 rw[e] at h
 by_cases hk:a<p.length
 ·rw[zl (by omega),cond_true] at h
  subst h
  exact⟨fun h=>⟨hk,of_decide_eq_true h⟩,fun h _=>zi.1 (of_decide_eq_false h)⟩
 rw[zk (by omega),cond_false] at h
 subst h
 exact⟨fun h=>(by cases h),fun _ h=>absurd h hk⟩
theorem spl_len (s:List UInt8):∀ acc:List UInt8,(Zt acc s).length<=s.length+1:=by
 induction s with
 | nil=>intro acc;simp[Zt]
 | cons c r ih=>
  intro acc
  simp only[Zt]
  cases decide (((c.toNat:Nat):Int)=32) with
  | true=>have:=ih [];simp only[cond_true,zb];omega
  | false=>have:=ih (acc++[c]);simp only[cond_false,zb];omega
theorem spl_part:∀ (s acc:List UInt8) (p:List UInt8),p∈Zt acc s->p.length<=acc.length+s.length
 | [],acc,p,h=>by
  simp only[Zt,zg] at h
  subst h;simp
 | c::r,acc,p,h=>by
  simp only[Zt] at h
  cases hq:decide (((c.toNat:Nat):Int)=32) with
  | true=>
   rw[hq,cond_true] at h
   rcases zF.1 h with rfl|h
   ·omega
   have:=spl_part r [] p h;simp only[zb,zd] at this ⊢;omega
  | false=>
   rw[hq,cond_false] at h
   have:=spl_part r (acc++[c]) p h
   simp only[za,zb,zd] at this ⊢;omega
theorem Zk {s:List UInt8} (h:s=[]):kW s=([],0):=by unfold kW;rw[if_pos h]
theorem kq {s:List UInt8} (h:¬s=[]) (h2:Z8 (jZ s)=none):kW s=([],25):=by unfold kW;rw[if_neg h,h2]
theorem Zm {s:List UInt8} {l:List Fld} (h:¬s=[]) (h2:Z8 (jZ s)=some l) (h3:jv l≠0):kW s=([],jv l):=by
 unfold kW;rw[if_neg h,h2]
 show (if jv l=0 then _ else _)=_
 rw[if_neg h3]
theorem parF_ok {s:List UInt8} {l:List Fld} (h:¬s=[]) (h2:Z8 (jZ s)=some l) (h3:¬jv l≠0):kW s=(l,0):=by
 unfold kW;rw[if_neg h,h2]
 show (if jv l=0 then _ else _)=_
 rw[if_pos (zi.1 h3)]
def rmGo (B M T:List Fld):List (List UInt8)->List Fld×List (List UInt8)
 | []=>([],[])
 | x::l=>
  let r:=rmGo B M T l
  let g:=if jn x M=jn x T then jn x M else if jn x M=jn x B then jn x T else jn x M
  (if g.isSome then (x,g.getD [])::r.1 else r.1,if jn x M=jn x T\/jn x M=jn x B\/jn x T=jn x B then r.2 else x::r.2)
def ZH (A:List Fld):List (List UInt8):=A.foldl (fun n f=>insS f.1 n) []
def refM (B M T:List Fld):List Fld×List (List UInt8):=
 if 0<(rmGo B M T (ZH (B++M++T))).2.length then ([],(rmGo B M T (ZH (B++M++T))).2) else ((rmGo B M T (ZH (B++M++T))).1,[])
theorem nmK_len (A:List Fld):∀ k,k<=A.length->(ZH (A.take k)).length<=k
 | 0,_=>by simp[ZH]
 | k+1,hk=>by
  have h1:=nmK_len A k (by omega)
  have e:ZH (A.take (k+1))=insS (A.getD k ([],[])).1 (ZH (A.take k)):=by
   rw[take_fld A k (by omega)];simp[ZH]
  rw[e]
  have:=insS_len (A.getD k ([],[])).1 (ZH (A.take k))
  omega
theorem nmK_step (A:List Fld) (k:Nat) (hk:k<A.length):ZH (A.take (k+1))=insS (A.getD k ([],[])).1 (ZH (A.take k)):=by
 rw[take_fld A k hk];simp[ZH]
theorem refM_con {B M T out:List Fld} {con:List (List UInt8)} (h:rmGo B M T (ZH (B++M++T))=(out,con)) (h2:0<((con.length:Nat):Int)):refM B M T=([],con):=by
 unfold refM;rw[h]
 exact if_pos (show 0<con.length by omega)
theorem refM_out {B M T out:List Fld} {con:List (List UInt8)} (h:rmGo B M T (ZH (B++M++T))=(out,con)) (h2:¬0<((con.length:Nat):Int)):refM B M T=(out,[]):=by
 unfold refM;rw[h]
 exact if_neg (show ¬0<con.length by omega)
end Go.Lens.Tm
end
section
namespace Go.Lens.Tm
open Go.Lens.Tb Go.Proofs
variable [Lz]
set_option maxHeartbeats 4000000
set_option maxRecDepth 100000
attribute [local irreducible] TK PK T RG EfR Body CG
theorem sz60:szT tab 60=some 1:=by kernel_rfl
theorem un212:tab.underlying 212=some (.slice 60):=by kernel_rfl
theorem w40 (s:List UInt8) (hl:s.length<=1000000):CKa 40 [vS (bsO s)] (.tup [vL eF (kW s).1,vI (kW s).2]):=by
 refine cG qf40 Z (nB Z) Z ?_
 have hsl:(jZ s).length<=s.length+1:=spl_len s []
 refine E Z (B.j8 (enc:=eF) Z) (E Z (B.seqB (a:=s) (b:=[]) Z Z) (Cp Z Z (fun h1=>?_) (fun h1=>?_)))
 ·exact E Z (B.j8 (enc:=eF) Z) (Rt Z (leaf (val0:=.tup [vL eF [],vI 0]) (by kernel_rfl) (tup2 (lsl (by rw[Zk h1])) (li (by rw[Zk h1])))))
 refine C Z (w119 s (by omega)) Z Z Z (E Z (B.adopt 6 2 175 Z Z) (l3 (fun (k:Nat) (v:Nat) (out:List Fld)=>[(4,vL eN (jZ s)),(5,.aref 6 v),(6,vI k)]) (fun _ v out=>[(6,.arr v 2 175 (List.map eF out))]) (fun k _ out=>k<=List.length (jZ s)/\out.length=k/\Z8 (jZ s)=Option.map (fun r=>out++r) (Z8 (List.drop k (jZ s)))) (fun k _ _=>List.length (jZ s)-k) 0 0 [] Z ?_ (sb Z Z Z) ?_))
 · exact⟨zq _,rfl,by simp⟩
 intro k v out hI0
 refine E Z (B.jh Z ji) (Cp Z Z (fun h2=>?_) (fun h2=>?_))
 ·have hpl:=spl_part s [] _ (getD_mem (l:=jZ s) (k:=k) (z:=[]) (by omega))
  simp only[zd,Nat.zero_add] at hpl
  refine l1 (fun (a:Nat)=>[(4,vL eN (jZ s)),(5,.aref 6 v),(6,vI k),(7,vI a)]) (fun _=>[(6,.arr v 2 175 (List.map eF out))]) (fun a=>a<=List.length (List.getD (jZ s) k [])/\∀ j,j<a->¬(((List.getD (List.getD (jZ s) k []) j 0).toNat:Nat):Int)=61) (fun a=>List.length (List.getD (jZ s) k [])-a) 0 Z ?_ (sb Z Z Z) ?_
  · exact⟨zq _,fun j hj=>by omega⟩
  intro a hI1
  refine E Z (B.idx (z:=[]) (i:=k) Z Z ji sz9 (fun _=>rfl) Z (by omega)) (E Z (B.lenB (a:=(List.getD (jZ s) k [])) Z un9) (Eg Z Z (fun hc=>B.move Z) Z (Eg Z Z (fun hc=>B.move Z) Z (Eg Z Z (fun hc=>B.idx (z:=[]) (i:=k) (qy Z hc) (qy Z hc) ji sz9 (fun _=>rfl) Z (by omega)) Z (Eg Z Z (fun hc=>B.loadP (qy Z hc) ag9 sz9) Z (Eg Z Z (fun hc=>B.move Z) Z (Eg Z Z (fun hc=>B.sidx (i:=a) (qy Z hc) (qy Z hc) un9 Z (show a<List.length (List.getD (jZ s) k []) from (by (have hc2:=hc;simp only[beq_iff_eq,zf,zH] at hc2;omega)))) Z (Eg Z Z (fun hc=>B.neq (qy Z hc) Z) Z (E Z (B.pick Z Z Z (gdB Z) Z (qJ _)) (Cb Z Z (fun h3=>?_) (fun h3=>?_)))))))))))
  ·refine E Z (B.add Z Z (by unfold R64;omega)) (pk Z (L1 (a+1) ?_ ?_ (sb Z Z Z)))
   · (obtain⟨hq1,hq2⟩:=(cut_q h3).1 rfl;refine⟨by omega,fun j hj=>?_⟩;rcases zy.1 hj with h|h;exact hI1.2 j h;subst h;exact hq2)
   · (have hq1:=((cut_q h3).1 Z).1;omega)
  refine E Z (B.idx (z:=[]) (i:=k) Z Z ji sz9 (fun _=>rfl) Z (by omega)) (E Z (B.lenB (a:=(List.getD (jZ s) k [])) Z un9) (Cp Z Z (fun h4=>?_) (fun h4=>?_)))
  ·exact E Z (B.j8 (enc:=eF) Z) (Rt Z (leaf (val0:=.tup [vL eF [],vI 25]) (by kernel_rfl) (tup2 (lsl (by rw[kq h1 (par_none hI0.2.2 (by omega) ((cutP_at _ a hI1.1 hI1.2).1 (by omega)))])) (li (by rw[kq h1 (par_none hI0.2.2 (by omega) ((cutP_at _ a hI1.1 hI1.2).1 (by omega)))])))))
  refine E Z (B.idx (z:=[]) (i:=k) Z Z ji sz9 (fun _=>rfl) Z (by omega)) (E Z (B.slHB (a:=(List.getD (jZ s) k [])) (j:=a) Z Z un9 Z (by omega)) (E Z (B.idx (z:=[]) (i:=k) Z Z ji sz9 (fun _=>rfl) Z (by omega)) (E Z (B.add Z Z (by unfold R64;omega)) (E Z (B.slLB (a:=(List.getD (jZ s) k [])) (i:=(a+1)) Z Z un9 (by omega) (by omega)) (E Z (B.jj (val:=.pv (.slice (List.map eF [((List.take a (List.getD (jZ s) k [])),(List.drop (a+1) (List.getD (jZ s) k [])))]))) Z (fun l=>Frz.arr l _ _ _ _ _) Z) (E Z (B.append Z Z Z un60 in175 Z (fun _=>rfl) by175 (by (simp only[za,zb,zd,zn,zo];omega))) (Dr Z (by kernel_rfl) (E Z (B.add Z Z (by unfold R64;omega)) (pk Z (L3 (k+1) (v+1) (out++[((List.take a (List.getD (jZ s) k [])),(List.drop (a+1) (List.getD (jZ s) k [])))]) ?_ ?_ (sb Z Z Z)))))))))))
  · (refine⟨by omega,by simp only[za,zb,zd];omega,?_⟩;exact par_some hI0.2.2 (by omega) ((cutP_at _ a hI1.1 hI1.2).2 (by omega) ((cut_q h3).2 Z (by omega))))
  · omega
 have hpe:=par_end hI0.2.2 (by omega)
 refine Fz 14 5 Z Z Z (C Z (w38 out (by omega)) Z Z Z (Cp Z Z (fun h5=>?_) (fun h5=>?_)))
 ·exact E Z (B.j8 (enc:=eF) Z) (Rt Z (leaf (val0:=.tup [vL eF [],vI (jv out)]) (by kernel_rfl) (tup2 (lsl (by rw[Zm h1 hpe (by assumption)])) (li (by rw[Zm h1 hpe (by assumption)])))))
 exact Rt Z (leaf (val0:=.tup [vL eF out,vI 0]) (by kernel_rfl) (tup2 (lsl (by rw[parF_ok h1 hpe (by assumption)])) (li (by rw[parF_ok h1 hpe (by assumption)]))))
theorem w122 (b m t:List Fld) (hb:b.length<=1000) (hm:m.length<=1000) (ht:t.length<=1000):CKa 122 [vL eF b,vL eF m,vL eF t] (.tup [vL eF (refM b m t).1,vL eN (refM b m t).2]):=by
 refine cG qf122 Z (nB Z) Z ?_
 have hal:List.length ((b++m)++t)=b.length+m.length+t.length:=by simp only[za]
 refine E Z (B.j8 (enc:=eF) Z) (E Z (B.j8 (enc:=eN) Z) (E Z (B.j8 (enc:=eN) Z) (E Z (B.run Z) (E Z (B.append (enc:=eF) (l:=[]) (r:=b) Z Z Z un60 in175 Z (fun _=>rfl) by175 (by (simp only[za,zb,zd,zn,zo];omega))) (E Z (B.append Z Z Z un60 in175 Z (fun _=>rfl) by175 (by (simp only[za,zb,zd,zn,zo];omega))) (E Z (B.append Z Z Z un60 in175 Z (fun _=>rfl) by175 (by (simp only[za,zb,zd,zn,zo];omega))) (Fz 3 9 Z Z Z (l2 (fun (k:Nat) (ns:List (List UInt8))=>[(0,vL eF b),(1,vL eF m),(2,vL eF t),(8,vL eN ns),(9,vL eF ((b++m)++t)),(10,vI k)]) (fun _ _=>[]) (fun k ns=>k<=List.length ((b++m)++t)/\ns=ZH (List.take k ((b++m)++t))) (fun k _=>List.length ((b++m)++t)-k) 0 [] Z ?_ (sb Z Z Z) ?_))))))))
 · exact⟨zq _,rfl⟩
 intro k ns hI0
 refine E Z (B.jh Z un60) (Cp Z Z (fun h1=>?_) (fun h1=>?_))
 ·have hnl:ns.length<=k:=by rw[hI0.2];exact nmK_len _ k (by omega)
  refine E Z (B.idx (z:=([],[])) (i:=k) Z Z un60 sz175 (fun _=>rfl) Z (by omega)) (C Z (w178 ns (List.getD ((b++m)++t) k ([],[])).1 (by omega)) Z Z Z (E Z (B.add Z Z (by unfold R64;omega)) (pk Z (L2 (k+1) (insS (List.getD ((b++m)++t) k ([],[])).1 ns) ?_ ?_ (sb Z Z Z)))))
  · (refine⟨by omega,?_⟩;rw[nmK_step _ k (by omega),<-hI0.2])
  · omega
 have hns:ns=ZH ((b++m)++t):=by rw[hI0.2,zx (by omega)]
 have hnl:ns.length<=k:=by rw[hI0.2];exact nmK_len _ k (by omega)
 refine E Z (B.adopt 12 2 175 Z Z) (E Z (B.adopt 13 1 9 Z Z) (l5 (fun (j:Nat) (vo:Nat) (out:List Fld) (vc:Nat) (con:List (List UInt8))=>[(0,vL eF b),(1,vL eF m),(2,vL eF t),(8,vL eN ns),(11,.aref 12 vo),(12,.aref 13 vc),(13,vI j)]) (fun _ vo out vc con=>[(12,.arr vo 2 175 (List.map eF out)),(13,.arr vc 1 9 (List.map eN con))]) (fun j _ out _ con=>j<=ns.length/\out.length<=j/\con.length<=j/\rmGo b m t ns=(out++(rmGo b m t (List.drop j ns)).1,con++(rmGo b m t (List.drop j ns)).2)) (fun j _ _ _ _=>ns.length-j) 0 0 [] 0 [] Z ?_ (sb Z Z Z) ?_))
 · exact⟨zq _,zz _,zz _,rfl⟩
 intro j vo out vc con hI1
 refine E Z (B.jh Z ji) (Cp Z Z (fun h2=>?_) (fun h2=>?_))
 ·refine E Z (B.idx (z:=[]) (i:=j) Z Z ji sz9 (fun _=>rfl) Z (by omega)) (C Z (w53 b (ns.getD j []) (by omega)) Z Z Z (E Z (B.idx (z:=[]) (i:=j) Z Z ji sz9 (fun _=>rfl) Z (by omega)) (C Z (w53 m (ns.getD j []) (by omega)) Z Z Z (E Z (B.idx (z:=[]) (i:=j) Z Z ji sz9 (fun _=>rfl) Z (by omega)) (C Z (w53 t (ns.getD j []) (by omega)) Z Z Z (E Z (B.seqB (a:=(Option.getD (jn (ns.getD j []) m) [])) (b:=(Option.getD (jn (ns.getD j []) t) [])) Z Z) (Eg Z Z (fun hc=>B.move Z) Z (Eg Z Z (fun hc=>B.move Z) Z (Eg Z Z (fun hc=>B.bqB (qy Z hc) (qy Z hc) un4) Z (E Z (B.pick Z Z Z (gdB Z) Z (qJ _)) (Cb Z Z (fun h3=>?_) (fun h3=>?_))))))))))))
  ·refine Cb Z Z (fun h4=>?_) (fun h4=>?_)
   ·refine E Z (B.idx (z:=[]) (i:=j) Z Z ji sz9 (fun _=>rfl) Z (by omega)) (E Z (B.jj (val:=.pv (.slice (List.map eF [((ns.getD j []),(Option.getD (jn (ns.getD j []) m) []))]))) Z (fun l=>Frz.arr l _ _ _ _ _) Z) (E Z (B.append Z Z Z un60 in175 Z (fun _=>rfl) by175 (by (simp only[za,zb,zd,zn,zo];omega))) (E Z (B.add Z Z (by unfold R64;omega)) (pk Z (L5 (j+1) (vo+1) (out++[((ns.getD j []),(Option.getD (jn (ns.getD j []) m) []))]) vc con ?_ ?_ (sb Z Z Z))))))
    · (refine⟨by omega,by (simp only[za,zb,zd];omega),by omega,?_⟩;rw[hI1.2.2.2,drop_at ns j [] (by omega),rmGo];clear hI1 hI0 hns hal;simp_all [kV,jw])
    · omega
   refine E Z (B.add Z Z (by unfold R64;omega)) (pk Z (L5 (j+1) vo out vc con ?_ ?_ (sb Z Z Z)))
   · (refine⟨by omega,by omega,by omega,?_⟩;rw[hI1.2.2.2,drop_at ns j [] (by omega),rmGo];clear hI1 hI0 hns hal;simp_all [kV,jw])
   · omega
  refine E Z (B.seqB (a:=(Option.getD (jn (ns.getD j []) m) [])) (b:=(Option.getD (jn (ns.getD j []) b) [])) Z Z) (Eg Z Z (fun hc=>B.move Z) Z (Eg Z Z (fun hc=>B.move Z) Z (Eg Z Z (fun hc=>B.bqB (qy Z hc) (qy Z hc) un4) Z (E Z (B.pick Z Z Z (gdB Z) Z (qJ _)) (Cb Z Z (fun h5=>?_) (fun h5=>?_))))))
  ·refine Cb Z Z (fun h6=>?_) (fun h6=>?_)
   ·refine E Z (B.idx (z:=[]) (i:=j) Z Z ji sz9 (fun _=>rfl) Z (by omega)) (E Z (B.jj (val:=.pv (.slice (List.map eF [((ns.getD j []),(Option.getD (jn (ns.getD j []) t) []))]))) Z (fun l=>Frz.arr l _ _ _ _ _) Z) (E Z (B.append Z Z Z un60 in175 Z (fun _=>rfl) by175 (by (simp only[za,zb,zd,zn,zo];omega))) (E Z (B.add Z Z (by unfold R64;omega)) (pk Z (L5 (j+1) (vo+1) (out++[((ns.getD j []),(Option.getD (jn (ns.getD j []) t) []))]) vc con ?_ ?_ (sb Z Z Z))))))
    · (refine⟨by omega,by (simp only[za,zb,zd];omega),by omega,?_⟩;rw[hI1.2.2.2,drop_at ns j [] (by omega),rmGo];clear hI1 hI0 hns hal;simp_all [kV,jw])
    · omega
   refine E Z (B.add Z Z (by unfold R64;omega)) (pk Z (L5 (j+1) vo out vc con ?_ ?_ (sb Z Z Z)))
   · (refine⟨by omega,by omega,by omega,?_⟩;rw[hI1.2.2.2,drop_at ns j [] (by omega),rmGo];clear hI1 hI0 hns hal;simp_all [kV,jw])
   · omega
  refine E Z (B.seqB (a:=(Option.getD (jn (ns.getD j []) t) [])) (b:=(Option.getD (jn (ns.getD j []) b) [])) Z Z) (Eg Z Z (fun hc=>B.move Z) Z (Eg Z Z (fun hc=>B.move Z) Z (Eg Z Z (fun hc=>B.bqB (qy Z hc) (qy Z hc) un4) Z (E Z (B.pick Z Z Z (gdB Z) Z (qJ _)) (Cb Z Z (fun h7=>?_) (fun h7=>?_))))))
  ·refine Cb Z Z (fun h8=>?_) (fun h8=>?_)
   ·refine E Z (B.idx (z:=[]) (i:=j) Z Z ji sz9 (fun _=>rfl) Z (by omega)) (E Z (B.jj (val:=.pv (.slice (List.map eF [((ns.getD j []),(Option.getD (jn (ns.getD j []) m) []))]))) Z (fun l=>Frz.arr l _ _ _ _ _) Z) (E Z (B.append Z Z Z un60 in175 Z (fun _=>rfl) by175 (by (simp only[za,zb,zd,zn,zo];omega))) (E Z (B.add Z Z (by unfold R64;omega)) (pk Z (L5 (j+1) (vo+1) (out++[((ns.getD j []),(Option.getD (jn (ns.getD j []) m) []))]) vc con ?_ ?_ (sb Z Z Z))))))
    · (refine⟨by omega,by (simp only[za,zb,zd];omega),by omega,?_⟩;rw[hI1.2.2.2,drop_at ns j [] (by omega),rmGo];clear hI1 hI0 hns hal;simp_all [kV,jw])
    · omega
   refine E Z (B.add Z Z (by unfold R64;omega)) (pk Z (L5 (j+1) vo out vc con ?_ ?_ (sb Z Z Z)))
   · (refine⟨by omega,by omega,by omega,?_⟩;rw[hI1.2.2.2,drop_at ns j [] (by omega),rmGo];clear hI1 hI0 hns hal;simp_all [kV,jw])
   · omega
  refine E Z (B.idx (z:=[]) (i:=j) Z Z ji sz9 (fun _=>rfl) Z (by omega)) (E Z (B.jj (val:=.pv (.slice (List.map eN [(ns.getD j [])]))) Z (fun l=>Frz.arr l _ _ _ _ _) Z) (E Z (B.append Z Z Z ji in9 Z (fun _=>rfl) by9 (by (simp only[za,zb,zd,zn,zo];omega))) (Cb Z Z (fun h9=>?_) (fun h9=>?_))))
  ·refine E Z (B.idx (z:=[]) (i:=j) Z Z ji sz9 (fun _=>rfl) Z (by omega)) (E Z (B.jj (val:=.pv (.slice (List.map eF [((ns.getD j []),(Option.getD (jn (ns.getD j []) m) []))]))) Z (fun l=>Frz.arr l _ _ _ _ _) Z) (E Z (B.append Z Z Z un60 in175 Z (fun _=>rfl) by175 (by (simp only[za,zb,zd,zn,zo];omega))) (E Z (B.add Z Z (by unfold R64;omega)) (pk Z (L5 (j+1) (vo+1) (out++[((ns.getD j []),(Option.getD (jn (ns.getD j []) m) []))]) (vc+1) (con++[(ns.getD j [])]) ?_ ?_ (sb Z Z Z))))))
   · (refine⟨by omega,by (simp only[za,zb,zd];omega),by (simp only[za,zb,zd];omega),?_⟩;rw[hI1.2.2.2,drop_at ns j [] (by omega),rmGo];clear hI1 hI0 hns hal;simp_all [kV,jw])
   · omega
  refine E Z (B.add Z Z (by unfold R64;omega)) (pk Z (L5 (j+1) vo out (vc+1) (con++[(ns.getD j [])]) ?_ ?_ (sb Z Z Z)))
  · (refine⟨by omega,by omega,by (simp only[za,zb,zd];omega),?_⟩;rw[hI1.2.2.2,drop_at ns j [] (by omega),rmGo];clear hI1 hI0 hns hal;simp_all [kV,jw])
  · omega
 have hrm:rmGo b m t (ZH ((b++m)++t))=(out,con):=by rw[<-hns,hI1.2.2.2,zX (by omega)];simp[rmGo]
 refine Fz 23 12 Z Z Z (E Z (B.jh Z ji) (Cp Z Z (fun h10=>?_) (fun h10=>?_)))
 ·exact E Z (B.j8 (enc:=eF) Z) (Rt Z (leaf (val0:=.tup [vL eF [],vL eN con]) (by kernel_rfl) (tup2 (lsl (by rw[refM_con hrm (by assumption)])) (lsl (by rw[refM_con hrm (by assumption)])))))
 exact Fz 25 11 Z Z Z (E Z (B.j8 (enc:=eN) Z) (Rt Z (leaf (val0:=.tup [vL eF out,vL eN []]) (by kernel_rfl) (tup2 (lsl (by rw[refM_out hrm (by assumption)])) (lsl (by rw[refM_out hrm (by assumption)]))))))
end Go.Lens.Tm
end
section
namespace Go.Lens.Tm
open Go.Lens.Tb Go.Proofs
variable [Lz]
theorem ltS_iff:∀ {x y:List UInt8},ltS x y=true↔x<y
 | x,[]=>by cases x<;>simp[ltS,Op.bytesLess]
 | [],b::m=>by simp[ltS,Op.bytesLess]
 | a::l,b::m=>by
  have ih:=ltS_iff (x:=l) (y:=m)
  unfold ltS at ih ⊢
  rw[List.cons_lt_cons_iff]
  simp[Op.bytesLess,ih]
theorem leS_iff {x y:List UInt8}:leS x y=true↔x<=y:=by
 have h:=ltS_iff (x:=x) (y:=y)
 unfold ltS at h
 unfold leS
 rw[Bool.or_eq_true,h,beq_iff_eq]
 constructor
 ·rintro (h|rfl)
  ·exact List.le_of_lt h
  exact List.le_refl _
 intro h
 by_cases e:x=y
 ·exact .inr e
 left
 by_cases hl:x<y
 ·exact hl
 exact absurd (List.le_antisymm h (List.not_lt.1 hl)) e
theorem insS_insB {x:List UInt8}:∀ {l:List (List UInt8)},l.Pairwise (· < ·)->insS x l=insB x l
 | [],_=>rfl
 | y::l,h=>by
  have ih:=insS_insB (x:=x) (List.pairwise_cons.1 h).2
  have hy:=(List.pairwise_cons.1 h).1
  unfold insS at ih ⊢
  simp only[insB,List.any_cons]
  cases h1:beqB x y with
  | true=>
   rw[beqB_iff] at h1
   subst h1
   simp
  | false=>
   have n1:¬x=y:=fun e=>by rw[beqB_iff.2 e] at h1;cases h1
   rw[zk (p:=y=x) (fun e=>n1 e.symm),Bool.false_or]
   cases h2:blt x y with
   | true=>
    rw[blt_iff] at h2
    have hno:List.any l (fun z=>decide (z=x))=false:=by
     rw[List.any_eq_false]
     intro z hz e
     have e:=of_decide_eq_true e
     subst e
     exact List.lt_irrefl _ (List.lt_trans h2 (hy z hz))
    have hlt:ltS y x=false:=by
     rw[Bool.eq_false_iff]
     intro e
     exact List.lt_irrefl _ (List.lt_trans h2 (ltS_iff.1 e))
    rw[hno]
    simp only[cond_false,cond_true,insGo,hlt]
   | false=>
    have n2:¬x<y:=fun e=>by rw[blt_iff.2 e] at h2;cases h2
    have hlt:ltS y x=true:=ltS_iff.2 (lt_of_not n1 n2)
    simp only[cond_false,insGo,hlt,cond_true]
    cases hany:List.any l (fun z=>decide (z=x)) with
    | true=>rw[hany] at ih;simp only[cond_true] at ih ⊢;rw[<-ih]
    | false=>rw[hany] at ih;simp only[cond_false] at ih ⊢;rw[<-ih]
theorem sorted_one {L M:List (List UInt8)} (hL:L.Pairwise (· < ·)) (hM:M.Pairwise (· < ·)) (h:∀ x,x∈L↔x∈M):L=M:=by
 have nd:∀ {L:List (List UInt8)},L.Pairwise (· < ·)->L.Nodup:=fun hs=>hs.imp fun h e=>by subst e;exact List.lt_irrefl _ h
 refine List.Perm.eq_of_pairwise (le:=fun a b=>decide (a<=b)=true) (fun a b _ _ h1 h2=>?_) ?_ ?_ ?_
 ·simp only[zf] at h1 h2
  exact List.le_antisymm h1 h2
 ·exact hL.imp fun h=>by simp only[zf];exact List.le_of_lt h
 ·exact hM.imp fun h=>by simp only[zf];exact List.le_of_lt h
 exact (List.perm_ext_iff_of_nodup (nd hL) (nd hM)).2 h
theorem foldS:∀ (A:List Fld) (acc:List (List UInt8)),acc.Pairwise (· < ·)->(A.foldl (fun n f=>insS f.1 n) acc).Pairwise (· < ·)/\∀ x,x∈A.foldl (fun n f=>insS f.1 n) acc↔x∈acc\/x∈A.map (·.1)
 | [],acc,h=>⟨h,fun x=>by simp⟩
 | f::A,acc,h=>by
  have h1:(insS f.1 acc).Pairwise (· < ·):=by rw[insS_insB h];exact ins_sorted h
  obtain⟨k1,k2⟩:=foldS A (insS f.1 acc) h1
  refine⟨k1,fun x=>?_⟩
  show x∈A.foldl _ (insS f.1 acc)↔_
  rw[k2 x,insS_insB h,mem_ins,zw,zF]
  constructor
  ·rintro ((h|h)|h)<;>simp[h]
  rintro (h|h|h)<;>simp[h]
theorem refNm_srt (A:List Fld):ZH A=srt (A.map (·.1)):=by
 obtain⟨k1,k2⟩:=foldS A [] List.Pairwise.nil
 refine sorted_one k1 (srt_sorted _) fun x=>?_
 rw[mem_srt]
 exact (k2 x).trans (by simp)
theorem rm_con (B M T:List Fld):∀ L,(rmGo B M T L).2=(mgo B M T L).2
 | []=>rfl
 | x::L=>by
  have ih:=rm_con B M T L
  simp only[rmGo,mgo]
  by_cases h1:jn x M=jn x T
  ·rw[if_pos (.inl h1),if_pos (.inl h1)];split<;>exact ih
  by_cases h2:jn x T=jn x B
  ·rw[if_pos (.inr (.inr h2)),if_pos (.inr h2)];split<;>exact ih
  by_cases h3:jn x M=jn x B
  ·rw[if_pos (.inr (.inl h3)),if_neg (by rintro (h|h);exact h1 h;exact h2 h),if_pos h3];split<;>exact ih
  rw[if_neg (by rintro (h|h|h);exact h1 h;exact h3 h;exact h2 h),if_neg (by rintro (h|h);exact h1 h;exact h2 h),if_neg h3,ih]
theorem rm_out (B M T:List Fld):∀ L,(mgo B M T L).2=[]->(rmGo B M T L).1=(mgo B M T L).1
 | [],_=>rfl
 | x::L,h=>by
  simp only[mgo] at h
  simp only[rmGo,mgo]
  by_cases h1:jn x M=jn x T
  ·rw[if_pos (Or.inl h1)] at h ⊢
   rw[if_pos h1]
   have hq:(mgo B M T L).2=[]:=by split at h<;>exact h
   rw[rm_out B M T L hq]
   split<;>rfl
  by_cases h2:jn x T=jn x B
  ·rw[if_pos (Or.inr h2)] at h ⊢
   have hq:(mgo B M T L).2=[]:=by split at h<;>exact h
   rw[if_neg h1,rm_out B M T L hq]
   by_cases h3:jn x M=jn x B
   ·exact absurd (h3.trans h2.symm) h1
   rw[if_neg h3];split<;>rfl
  have hn:¬(jn x M=jn x T\/jn x T=jn x B):=by rintro (h|h);exact h1 h;exact h2 h
  rw[if_neg hn] at h ⊢
  by_cases h3:jn x M=jn x B
  ·rw[if_pos h3] at h ⊢
   have hq:(mgo B M T L).2=[]:=by split at h<;>exact h
   rw[if_neg h1,if_pos h3,rm_out B M T L hq];split<;>rfl
  rw[if_neg h3] at h;cases h
theorem fGo_all {l:List Fld}:∀ (n i:Nat),i+n=l.length->fGo l n i=0->∀ j,i<=j->j<l.length->fOne l j=0
 | 0,i,hn,_,j,h1,h2=>by omega
 | n+1,i,hn,h,j,h1,h2=>by
  simp only[fGo] at h
  split at h
  ·rename_i h0
   by_cases hij:j=i
   ·subst hij;exact h0
   exact fGo_all n (i+1) (by omega) h j (by omega) h2
  rename_i h0;exact absurd h h0
theorem chk_parts {l:List Fld} (h:jv l=0):l.length<=24/\∀ j,j<l.length->chkF (l.getD j ([],[]))=0/\ordB l j=false:=by
 unfold jv at h
 by_cases hl:24<l.length
 ·rw[zl hl] at h;cases h
 rw[zk hl] at h
 refine⟨by omega,fun j hj=>?_⟩
 have:=fGo_all l.length 0 (by omega) h j (by omega) hj
 unfold fOne at this
 split at this
 ·rename_i h0
  refine⟨h0,?_⟩
  cases ho:ordB l j with
  | false=>rfl
  | true=>rw[ho] at this;cases this
 rename_i h0;exact absurd this h0
theorem chkF_len {f:Fld} (h:chkF f=0):f.1.length<=24/\f.2.length<=60:=by
 unfold chkF at h
 cases hn:qV (bsO f.1) with
 | false=>rw[hn] at h;cases h
 | true=>
  rw[hn] at h
  by_cases hc:60<f.2.length
  ·rw[zl hc] at h;cases h
  refine⟨?_,by omega⟩
  by_cases hz:24<f.1.length
  ·rw[ZQ (s:=bsO f.1) (.inr hz)] at hn;cases hn
  omega
theorem mem_getD {α:Type} {l:List α} {a:α} (z:α) (h:a∈l):∃ j,j<l.length/\l.getD j z=a:=by
 obtain⟨j,hj,rfl⟩:=List.getElem_of_mem h
 exact⟨j,hj,by rw[ze,zm hj];rfl⟩
theorem chk_small {l:List Fld} (h:jv l=0):Small l:=by
 obtain⟨h1,h2⟩:=chk_parts h
 refine⟨by omega,fun f hf=>?_⟩
 obtain⟨j,hj,rfl⟩:=mem_getD ([],[]) hf
 have:=(chkF_len (h2 j hj).1).1
 omega
theorem asc_of:∀ (l:List Fld),(∀ j,0<j->j<l.length->leS (l.getD j ([],[])).1 (l.getD (j-1) ([],[])).1=false)->ascB l=true
 | [],_=>rfl
 | [_],_=>rfl
 | a::b::l,h=>by
  have h0:leS b.1 a.1=false:=h 1 (by omega) (by simp)
  have hlt:blt a.1 b.1=true:=by
   rw[blt_iff]
   rw[Bool.eq_false_iff,Ne,leS_iff] at h0
   exact List.not_le.1 h0
  simp only[ascB,hlt,Bool.true_and]
  refine asc_of (b::l) fun j h1 h2=>?_
  have:=h (j+1) (by omega) (by simpa using h2)
  rw[show j+1-1=(j-1)+1 by omega] at this
  simpa using this
theorem chk_asc {l:List Fld} (h:jv l=0):ascB l=true:=by
 refine asc_of l fun j h1 h2=>?_
 have:=((chk_parts h).2 j h2).2
 unfold ordB at this
 rw[zl h1,Bool.true_and] at this
 exact this
end Go.Lens.Tm
end
section
namespace Go.Lens
variable [Lz]
section
variable {P:Program} {Y:Tab} [qU P Y] {nb:Nat} {s:St} {dst:Option Tmp} {ty u:TypeId} {pos:String} {af:Array Edge} {gd:Option (Nat×Bool)} {t:TypeId} {x y z:Operand}
theorem B.idxE {α:Type} {enc:α->List PV} {l:List α} {h v sz n:Nat} {k:IntKind} {m:Int} {e T:TypeId} (hx:ev1 s x=.aref h v) (hm:qx s.ms h=some (.arr v sz T (l.map enc))) (hy:ev1 s y=lit (.int k m)) (und:Y.underlying t=some (.slice e)) (hs:szT Y e=some sz)
  (hn:m=(n:Int)) (hlt:n<l.length):Body P Y nb s ⟨dst,.indexAddr t x y,ty,pos,af,gd⟩ (.eref h v n 0) [] [h]:=by
 refine .inr (Zp.of fun σ G a w hv hl I=>?_)
 have hX:=hv x (by simp[Op.operands])
 have hY:=hv y (by simp[Op.operands])
 rw[hx] at hX;rw[hy] at hY
 have hlk:qx σ.ms h=some (.arr v sz T (l.map enc)):=by rw[hl h (.inl (by simp))];exact hm
 have hq:j9 Y t (qx σ.ms) (.aref h v) (lit (.int k m))=some (true,.eref h v n 0):=by
  show jN Y t (qx σ.ms) (.aref h v) (lit (.int k m))=_
  unfold jN lit
  subst hn
  have:decide ((0:Int)<=(n:Int)/\(n:Int)<((l.map enc).length:Int))=true:=zl ⟨by omega,by rw[zJ];omega⟩
  simp only[und,hs,hlk,and_self,qq,this,zU]
 obtain⟨r,h1,h2⟩:=indexAddrW_sound (P:=P) I.ctxS.sees hq hX hY
 refine⟨r,w,G,.inl ?_,qL I.ctxS h2 (fun k hk=>?_)⟩
 ·simp only[execOp,qu,h1,qt,qw]
 simp only[DV.refs,zg] at hk;subst hk;exact⟨_,hlk⟩
theorem B.setE {α:Type} {enc:α->List PV} {l:List α} {z0:α} {p:PV} {h v n:Nat} {T:TypeId} (hx:ev1 s x=.eref h v n 0) (hm:qx s.ms h=some (.arr v 1 T (l.map enc))) (hy:ev1 s y=.pv p) (hz:enc z0=[p]) (hc:cellsPV p=[p])
  (hs:szT Y t=some 1) (hlt:n<l.length) (hsz:∀ a,(enc a).length=1):Body P Y nb s ⟨dst,.store t x y,ty,pos,af,gd⟩ .dead [(h,.arr v 1 T ((l.set n z0).map enc))] [h]:=by
 refine .inr (Zp.of fun σ G a w hv hl I=>?_)
 have hX:=hv x (by simp[Op.operands])
 have hY:=hv y (by simp[Op.operands])
 rw[hx] at hX;rw[hy] at hY
 have hlk:qx σ.ms h=some (.arr v 1 T (l.map enc)):=by rw[hl h (.inl (by simp))];exact hm
 have C:Ctx G w (fun z=>match z with| .tmp 0=>a.eval x| .tmp 1=>a.eval y|_=>undef) (fun z=>match z with| .tmp 0=>.eref h v n 0| .tmp 1=>.pv p|_=>.dead) (qx σ.ms) (qx σ.ms):=by
  refine I.mem.ctx2 (fun z=>?_) (fun z k hk=>?_)
  ·split
   ·exact hX
   ·exact hY
   simp only[qz]
  split at hk
  ·simp only[DV.refs,zg] at hk;subst hk;exact⟨_,hlk⟩
  ·simp[DV.refs] at hk
  simp[DV.refs] at hk
 have hcv:storeV Y t (.eref h v n 0) (.pv p) (qx σ.ms)=some ⟨true,.dead,[(h,.arr v 1 T ((l.set n z0).map enc))]⟩:=by
  unfold storeV
  have hp:pvOf (qx σ.ms) (.pv p)=some p:=rfl
  have hg:(l.map enc).getD n []=enc (l[n]'hlt):=by rw[ze,qf,zm hlt];rfl
  have hd:(enc (l[n]'hlt)).drop 1=[]:=zX (by rw[hsz];omega)
  have hdec:decide (n<(l.map enc).length/\0+1<=1)=true:=zl ⟨by rw[zJ];exact hlt,by omega⟩
  simp only[hs,hlk,hp,hc,zb,zd,and_self,qq,hg,List.take_zero,zW,Nat.zero_add,hd,zS,List.map_set,hz]
  have hdec2:decide (n<(l.map enc).length/\1<=1)=true:=hdec
  simp only[zJ] at hdec2
  simp[hlt]
 obtain⟨w',G',h1,h2⟩:=storeV_sound (P:=P) C (t:=t) (a:=.tmp 0) (x:=.tmp 1) hcv rfl
 refine⟨undef,w',G',.inr ⟨?_,rfl⟩,h2⟩
 have lift:∀ {q:Sem Unit} {w':World},q.run P w=.ok () w'->(do q;Pure.pure Next.skip:Sem Next).run P w=.ok .skip w':=by
  intro q w' h
  simp only[qu,h,qt,qw]
 exact lift (q:=Instr.storeAt _ _ _) h1
theorem B.lenB1 {c:UInt8} {at':TypeId} (hx:ev1 s x=lit (.string (bsO [c]))) (hu:Y.underlying at'=some .string):Body P Y nb s ⟨dst,.call ⟨.builtin .len,⟨[x]⟩,⟨[at']⟩⟩,ty,pos,af,gd⟩ (lit (.int .i64 1)) [] []:=B.lenB hx hu
end
end Go.Lens
end
section
namespace Go.Lens.Tm
open Go.Lens.Tb Go.Proofs
variable [Lz]
theorem u8_back (c:UInt8):(((c.toNat:Nat):Int)).toNat.toUInt8=c:=by simp
theorem w310 (hp:qH) (s:List UInt8) (c:UInt8):CKa 310 [vS (bsO s),.pv (.lit (.int .u8 ((c.toNat:Nat):Int)))] (vI (Lib.indexByte s c)):=by
 have h:extO ext 310 0 [vS (bsO s),.pv (.lit (.int .u8 ((c.toNat:Nat):Int)))] []=some (lit (.int .i64 (Lib.indexByte (bsO s).data.toList (((c.toNat:Nat):Int)).toNat.toUInt8)),[]):=rfl
 rw[u8_back] at h
 exact extO_ok (ext_ok hp) _ _ _ _ _ _ h
theorem w287 (hp:qH) (s:List UInt8) (c:UInt8):CKa 287 [vS (bsO s),.pv (.lit (.int .u8 ((c.toNat:Nat):Int)))] (vI ((List.count c s:Nat):Int)):=by
 have h:extO ext 287 0 [vS (bsO s),.pv (.lit (.int .u8 ((c.toNat:Nat):Int)))] []=some (lit (.int .i64 (Lib.countByte (bsO s).data.toList (((c.toNat:Nat):Int)).toNat.toUInt8)),[]):=rfl
 rw[u8_back] at h
 exact extO_ok (ext_ok hp) _ _ _ _ _ _ h
theorem ix_nat:∀ {s:List UInt8} {c:UInt8},0<=Lib.indexByte s c->∃ n:Nat,Lib.indexByte s c=(n:Int)/\n<s.length/\s.getD n 0=c/\∀ j,j<n->s.getD j 0≠c
 | [],c,h=>by simp[Lib.indexByte] at h
 | b::l,c,h=>by
  simp only[Lib.indexByte] at h ⊢
  by_cases hb:(b==c)=true
  ·rw[if_pos hb]
   exact⟨0,rfl,by simp,by simpa using hb,fun j hj=>by omega⟩
  rw[if_neg hb] at h ⊢
  by_cases h1:(Lib.indexByte l c== -1)=true
  ·rw[if_pos h1] at h;omega
  rw[if_neg h1] at h ⊢
  have hge:=Lib.indexByte_ge l c
  have hne:Lib.indexByte l c≠ -1:=by simpa using h1
  obtain⟨n,e,k1,k2,k3⟩:=ix_nat (s:=l) (c:=c) (by omega)
  refine⟨n+1,by rw[e];rfl,by simpa using k1,by simpa using k2,fun j hj=>?_⟩
  cases j with
  | zero=>simpa using hb
  | succ j=>simpa using k3 j (by omega)
theorem ix_neg:∀ {s:List UInt8} {c:UInt8},Lib.indexByte s c<0->c∉s
 | [],c,_=>by simp
 | b::l,c,h=>by
  simp only[Lib.indexByte] at h
  by_cases hb:(b==c)=true
  ·rw[if_pos hb] at h;omega
  rw[if_neg hb] at h
  by_cases h1:(Lib.indexByte l c== -1)=true
  ·have e:Lib.indexByte l c= -1:=by simpa using h1
   have:=ix_neg (s:=l) (c:=c) (by omega)
   have hb':b≠c:=by simpa using hb
   simp only[zF,not_or]
   exact⟨fun e=>hb' e.symm,this⟩
  rw[if_neg h1] at h
  have:=Lib.indexByte_ge l c
  have hne:Lib.indexByte l c≠ -1:=by simpa using h1
  omega
theorem ix_self {s:List UInt8} {c:UInt8} (h:(bif decide ((1:Int)=0) then true else decide ([c]=s))=true):(0:Int)=Lib.indexByte s c:=by
 have:[c]=s:=by simpa using h
 subst this
 simp[Lib.indexByte]
def cut3 (s:List UInt8) (c:UInt8):List UInt8×List UInt8×Bool:=if Lib.indexByte s c<0 then (s,[],false) else (s.take (Lib.indexByte s c).toNat,s.drop ((Lib.indexByte s c).toNat+1),true)
theorem cut3_no {s:List UInt8} {c:UInt8} (h:¬0<=Lib.indexByte s c):cut3 s c=(s,[],false):=by unfold cut3;exact if_pos (by omega)
theorem cut3_yes {s:List UInt8} {c:UInt8} {n:Nat} (h:Lib.indexByte s c=(n:Int)):cut3 s c=(s.take n,s.drop (n+1),true):=by
 unfold cut3;rw[h,if_neg (by omega),zU]
theorem kS (p:List UInt8):((cut3 p 61).2.2=true->cutP p=some ((cut3 p 61).1,(cut3 p 61).2.1))/\((cut3 p 61).2.2=false->cutP p=none):=by
 have c61:∀ b:UInt8,((b.toNat:Nat):Int)=61↔b=61:=fun b=>by
  constructor
  ·intro h;exact UInt8.toNat_inj.1 (by have e:(61:UInt8).toNat=61:=rfl;omega)
  rintro rfl;rfl
 by_cases h:0<=Lib.indexByte p 61
 ·obtain⟨n,e,k1,k2,k3⟩:=ix_nat h
  rw[cut3_yes e]
  refine⟨fun _=>?_,fun h=>by cases h⟩
  exact (cutP_at p n (by omega) fun j hj hq=>k3 j hj ((c61 _).1 hq)).2 k1 ((c61 _).2 k2)
 rw[cut3_no h]
 refine⟨fun h=>(by cases h),fun _=>?_⟩
 have hn:=ix_neg (s:=p) (c:=61) (by omega)
 exact (cutP_at p p.length (zz _) fun j hj hq=>hn (by have:=(c61 _).1 hq;rw[<-this];exact getD_mem hj)).1 rfl
theorem c32 (b:UInt8):((b.toNat:Nat):Int)=32↔b=32:=by
 constructor
 ·intro h;exact UInt8.toNat_inj.1 (by have e:(32:UInt8).toNat=32:=rfl;omega)
 rintro rfl;rfl
theorem splGo_none:∀ (s acc:List UInt8),32∉s->Zt acc s=[acc++s]
 | [],acc,_=>by simp[Zt]
 | b::r,acc,h=>by
  simp only[zF,not_or] at h
  simp only[Zt]
  rw[zk (p:=((b.toNat:Nat):Int)=32) (fun e=>h.1 ((c32 b).1 e).symm),cond_false,splGo_none r _ h.2];simp
theorem splGo_at:∀ (s acc:List UInt8) (n:Nat),n<s.length->s.getD n 0=32->(∀ j,j<n->s.getD j 0≠32)->Zt acc s=(acc++s.take n)::Zt [] (s.drop (n+1))/\List.count 32 s=List.count 32 (s.drop (n+1))+1
 | [],_,n,h,_,_=>by simp at h
 | b::r,acc,0,_,h,_=>by
  have hb:b=32:=h
  subst hb
  simp only[Zt]
  exact⟨by simp,by simp⟩
 | b::r,acc,n+1,h1,h2,h3=>by
  have hb:b≠32:=h3 0 (by omega)
  obtain⟨k1,k2⟩:=splGo_at r (acc++[b]) n (by simpa using h1) (by simpa using h2) fun j hj=>by simpa using h3 (j+1) (by omega)
  simp only[Zt]
  rw[zk (p:=((b.toNat:Nat):Int)=32) (fun e=>hb ((c32 b).1 e)),cond_false,k1]
  exact⟨by simp,by rw[List.count_cons_of_ne hb];simpa using k2⟩
def GsI (s:List UInt8) (n2 i:Nat) (a:List (List UInt8)) (q:List UInt8):Prop:=a.length=n2/\q.length<=s.length/\i+List.count 32 q+1=n2/\jZ s=a.take i++jZ q
theorem gs_step {s q:List UInt8} {n2 i m:Nat} {a:List (List UInt8)} (h:GsI s n2 i a q) (e:Lib.indexByte q 32=(m:Int)) (hm:m<q.length) (h2:q.getD m 0=32) (h3:∀ j,j<m->q.getD j 0≠32):GsI s n2 (i+1) (a.set i (q.take m)) (q.drop (m+1)):=by
 obtain⟨k1,k2,k3,k4⟩:=h
 obtain⟨g1,g2⟩:=splGo_at q [] m hm h2 h3
 refine⟨by rw[List.length_set];exact k1,by rw[zo];omega,by omega,?_⟩
 have hi:i<a.length:=by omega
 rw[k4]
 unfold jZ
 rw[g1,List.take_add_one,List.getElem?_set_self hi,List.take_set_of_le (zz _)]
 simp
theorem gs_end {s q:List UInt8} {n2 i:Nat} {a:List (List UInt8)} (h:GsI s n2 i a q) (hq:32∉q):(a.set i q).take (i+1)=jZ s:=by
 obtain⟨k1,k2,k3,k4⟩:=h
 have hi:i<a.length:=by omega
 rw[k4]
 unfold jZ
 rw[splGo_none q [] hq,List.take_add_one,List.getElem?_set_self hi,List.take_set_of_le (zz _)]
 rfl
theorem gs_no {s q:List UInt8} {n2 i:Nat} {a:List (List UInt8)} (h:GsI s n2 i a q) (hc:¬((i:Nat):Int)<((n2:Nat):Int)-1):32∉q:=by
 obtain⟨_,_,k3,_⟩:=h
 exact List.count_eq_zero.1 (by omega)
end Go.Lens.Tm
end
section
namespace Go.Lens.Tm
open Go.Lens.Tb Go.Proofs
variable [Lz]
set_option maxHeartbeats 4000000
set_option maxRecDepth 100000
attribute [local irreducible] TK PK T RG EfR Body CG
theorem w288 (hp:qH) (s:List UInt8) (c:UInt8):CKa 288 [vS (bsO s),.pv (.lit (.int .u8 ((UInt8.toNat c:Nat):Int)))] (vI (Lib.indexByte s c)):=by
 exact cG qf288 Z (nB Z) Z (C Z (w310 hp s c) Z Z Z (Rt Z (leaf Z Z)))
theorem w246 (hp:qH) (s:List UInt8) (c:UInt8) (hl:s.length<=1000000):CKa 246 [vS (bsO s),vS (bsO [c])] (vI (Lib.indexByte s c)):=by
 refine cG qf246 Z (nB Z) Z (E Z (B.lenB1 (c:=c) Z un9) (Eg Z Z (fun hc=>B.move Z) Z (Eg Z Z (fun hc=>B.move Z) Z (Eg Z Z (fun hc=>B.seqB (a:=[c]) (b:=s) (qy Z hc) (qy Z hc)) Z (E Z (B.pick Z Z Z Z (gdB Z) (q7 _)) (Cb Z Z (fun h1=>?_) (fun h1=>?_)))))))
 ·exact Rt Z (leaf (val0:=vI 0) (by kernel_rfl) (li (by exact ix_self h1)))
 exact CT Z Z (E Z (B.sidx (i:=0) Z Z un9 Z (show 0<List.length [c] from (by simp))) (C rfl (w288 hp s c) rfl rfl rfl (Rt rfl (leaf rfl rfl))))
theorem w245 (hp:qH) (s:List UInt8) (c:UInt8) (hl:s.length<=1000000):CKa 245 [vS (bsO s),vS (bsO [c])] (vI (Lib.indexByte s c)):=by
 exact cG qf245 Z (nB Z) Z (C Z (w246 hp s c (by omega)) Z Z Z (Rt Z (leaf Z Z)))
theorem w244 (hp:qH) (s:List UInt8) (c:UInt8) (hl:s.length<=1000000):CKa 244 [vS (bsO s),vS (bsO [c])] (vI ((List.count c s:Nat):Int)):=by
 exact cG qf244 Z (nB Z) Z (E Z (B.lenB1 (c:=c) Z un9) (CF Z Z (E Z (B.lenB1 (c:=c) Z un9) (CT Z Z (E Z (B.sidx (i:=0) Z Z un9 Z (show 0<List.length [c] from (by simp))) (C rfl (w287 hp s c) rfl rfl rfl (Rt rfl (leaf rfl rfl))))))))
theorem w171 (hp:qH) (s:List UInt8) (c:UInt8) (hl:s.length<=1000000):CKa 171 [vS (bsO s),vS (bsO [c])] (.tup [vS (bsO (cut3 s c).1),vS (bsO (cut3 s c).2.1),vB (cut3 s c).2.2]):=by
 refine cG qf171 Z (nB Z) Z (C Z (w246 hp s c (by omega)) Z Z Z (Cp Z Z (fun h1=>?_) (fun h1=>?_)))
 ·refine tk 3 Z ?_
  refine tn ⟨[(0,vS (bsO s)),(1,vS (bsO [c])),(7,vI (Lib.indexByte s c))],[]⟩ rfl rfl Z ?_
  obtain⟨n,hn,hns,_,_⟩:=ix_nat h1
  rw[hn]
  exact kc (E Z (B.slHB (a:=s) (j:=n) Z Z un9 Z (by omega)) (E Z (B.lenB1 (c:=c) Z un9) (E Z (B.add Z Z (by unfold R64;omega)) (E Z (B.slLB (a:=s) (i:=(n+1)) Z Z un9 (by omega) (by omega)) (Dr Z (by kernel_rfl) (Rt Z (leaf (val0:=.tup [vS (bsO (List.take n s)),vS (bsO (List.drop (n+1) s)),vB true]) (by kernel_rfl) (tup3 (ls (by rw[cut3_yes hn])) (ls (by rw[cut3_yes hn])) (lb (by rw[cut3_yes hn]))))))))))
 exact Rt Z (leaf (val0:=.tup [vS (bsO s),vS (bsO []),vB false]) (by kernel_rfl) (tup3 (ls (by rw[cut3_no h1])) (ls (by rw[cut3_no h1])) (lb (by rw[cut3_no h1]))))
theorem w117 (hp:qH) (s:List UInt8) (c:UInt8) (hl:s.length<=1000000):CKa 117 [vS (bsO s),vS (bsO [c])] (.tup [vS (bsO (cut3 s c).1),vS (bsO (cut3 s c).2.1),vB (cut3 s c).2.2]):=by
 exact cG qf117 Z (nB Z) Z (C Z (w171 hp s c (by omega)) Z Z Z (Rt Z (leaf Z Z)))
theorem w170 (hp:qH) (s:List UInt8) (hl:s.length<=1000000):CKa 170 [vS (bsO s),vS (bsO [32]),vI 0,vI (-1)] (vL eN (jZ s)):=by
 refine cG qf170 Z (nB Z) Z (E Z (B.j8 (enc:=eN) Z) (CF Z Z (E Z (B.seqB (a:=[32]) (b:=[]) Z Z) (CF Z Z (CT Z Z ?_)))))
 have hcl:List.count 32 s<=s.length:=List.count_le_length
 refine C Z (w244 hp s 32 (by omega)) Z Z Z (E Z (B.add Z Z (by unfold R64;omega)) (E Z (B.lenB (a:=s) Z un9) (E Z (B.add Z Z (by unfold R64;omega)) (E Z (B.min Z Z) ?_))))
 refine tk 8 Z ?_
 refine tn ⟨[(0,vS (bsO s)),(1,vS (bsO [32])),(2,vI 0),(3,vI (min (((List.count 32 s:Nat):Int)+1) ((s.length:Int)+1)))],[]⟩ rfl rfl Z ?_
 obtain⟨n2,hn2⟩:∃ n2,n2=List.count 32 s+1:=⟨_,rfl⟩
 rw[show (min (((List.count 32 s:Nat):Int)+1) ((s.length:Int)+1))=(n2:Int) by omega]
 refine kc (E Z (B.makeSl (enc:=eN) (sz:=1) (z0:=[]) (n:=n2) (m:=n2) Z Z Z ji in9 Z Z Z by9 (by omega) Z Z) (E Z (B.sub Z Z (by unfold R64;omega)) (l3 (fun (i:Nat) (a:List (List UInt8)) (q:List UInt8)=>[(0,vS (bsO q)),(1,vS (bsO [32])),(2,vI 0),(3,vI ((n2:Int)-1)),(9,.aref 32 0),(10,vI i)]) (fun _ a _=>[(32,.arr 0 1 9 (List.map eN a))]) (fun i a q=>GsI s n2 i a q) (fun i _ _=>n2-i) 0 (List.replicate n2 []) s Z ?_ (sb Z Z Z) ?_)))
 · exact⟨qe,zz _,by omega,by simp⟩
 intro i a q hI0
 have hal:=hI0.1
 have hil:=hI0.2.2.1
 refine Cp Z Z (fun h1=>?_) (fun h1=>?_)
 ·have hql:=hI0.2.1
  refine C Z (w245 hp q 32 (by omega)) Z Z Z (Cp Z Z (fun h2=>?_) (fun h2=>?_))
  ·have hal:=hI0.1
   have hil:=hI0.2.2.1
   exact E Z (B.idxE (n:=i) Z Z Z ji sz9 Z (by omega)) (E Z (B.setE (z0:=q) Z Z Z Z Z sz9 (by omega) (fun _=>rfl)) (Fz 18 9 Z Z Z (E Z (B.add Z Z (by unfold R64;omega)) (E Z (B.slT (j:=(i+1)) Z Z ji sz9 (by omega) (by (simp only[List.length_set];omega))) (Rt Z (leaf (val0:=vL eN (List.take (i+1) (List.set a i q))) (by kernel_rfl) (lsl (by exact gs_end hI0 (ix_neg (by assumption))))))))))
  refine tk 14 Z ?_
  refine tn ⟨[(0,vS (bsO q)),(1,vS (bsO [32])),(2,vI 0),(3,vI ((n2:Int)-1)),(9,.aref 32 0),(10,vI i),(11,vI (Lib.indexByte q 32))],[(32,.arr 0 1 9 (List.map eN a))]⟩ rfl rfl Z ?_
  obtain⟨m,hm,hmq,hm2,hm3⟩:=ix_nat (show 0<=Lib.indexByte q 32 by omega)
  rw[hm]
  refine kc (E Z (B.add Z Z (by unfold R64;omega)) (E Z (B.slHB (a:=q) (j:=(Int.toNat ((m:Int)+0))) Z Z un9 (Int.toNat_of_nonneg (by omega)).symm (by omega)) (E Z (B.idxE (n:=i) Z Z Z ji sz9 Z (by omega)) (E Z (B.setE (z0:=(List.take (Int.toNat ((m:Int)+0)) q)) Z Z Z Z Z sz9 (by omega) (fun _=>rfl)) (E Z (B.lenB1 (c:=32) Z un9) (E Z (B.add Z Z (by unfold R64;omega)) (E Z (B.slLB (a:=q) (i:=(m+1)) Z Z un9 (by omega) (by omega)) (E Z (B.add Z Z (by unfold R64;omega)) (pk Z (L3 (i+1) (List.set a i (List.take (Int.toNat ((m:Int)+0)) q)) (List.drop (m+1) q) ?_ ?_ (sb Z Z Z)))))))))))
  · exact gs_step hI0 hm hmq hm2 hm3
  · omega
 have hal:=hI0.1
 have hil:=hI0.2.2.1
 exact E Z (B.idxE (n:=i) Z Z Z ji sz9 Z (by omega)) (E Z (B.setE (z0:=q) Z Z Z Z Z sz9 (by omega) (fun _=>rfl)) (Fz 18 9 Z Z Z (E Z (B.add Z Z (by unfold R64;omega)) (E Z (B.slT (j:=(i+1)) Z Z ji sz9 (by omega) (by (simp only[List.length_set];omega))) (Rt Z (leaf (val0:=vL eN (List.take (i+1) (List.set a i q))) (by kernel_rfl) (lsl (by exact gs_end hI0 (gs_no hI0 (by assumption))))))))))
theorem w116 (hp:qH) (s:List UInt8) (hl:s.length<=1000000):CKa 116 [vS (bsO s),vS (bsO [32])] (vL eN (jZ s)):=by
 exact cG qf116 Z (nB Z) Z (E Z (B.j8 (enc:=eN) Z) (C Z (w170 hp s (by omega)) Z Z Z (Rt Z (leaf Z Z))))
end Go.Lens.Tm
end
section
namespace Go.Lens.Tm
open Go.Lens.Tb Go.Proofs
variable [Lz]
theorem cut3_len (p:List UInt8) (c:UInt8):(cut3 p c).2.1.length<=p.length:=by
 unfold cut3
 split
 ·simp
 simp
theorem out_len {N:Nat} {out:List Fld} {p:List UInt8} {c:UInt8} (h:∀ f∈out,f.2.length<=N) (hp:p.length<=N):∀ f∈out++[((cut3 p c).1,(cut3 p c).2.1)],f.2.length<=N:=by
 intro f hf
 rcases zI.1 hf with hf|hf
 ·exact h f hf
 simp only[zg] at hf
 subst hf
 exact qi (cut3_len p c) hp
end Go.Lens.Tm
end
section
namespace Go.Lens.Tm
open Go.Lens.Tb Go.Proofs
variable [Lz]
set_option maxRecDepth 100000
attribute [local irreducible] TK PK T RG EfR Body CG
set_option maxHeartbeats 4000000 in
theorem w37 (hp:qH) (s:List UInt8) (hl:s.length<=100000):CKa 37 [vS (bsO s)] (.tup [vL eF (kW s).1,vI (kW s).2]):=by
 refine cG qf37 Z (nB Z) Z ?_
 have hsl:(jZ s).length<=s.length+1:=spl_len s []
 refine E Z (B.j8 (enc:=eF) Z) (E Z (B.seqB (a:=s) (b:=[]) Z Z) (Cp Z Z (fun h1=>?_) (fun h1=>?_)))
 ·refine E Z (B.j8 (enc:=eF) Z) ?_
  exact Rt Z (leaf (val0:=.tup [vL eF [],vI 0]) (by kernel_rfl) (tup2 (lsl (by first
          | rw[Zk h1]
          | rw[kq h1 (par_none hI0.2.2.1 (by omega) ((kS _).2 (bnot_t h3)))]
          | rw[Zm h1 hpe (by assumption)]
          | rw[parF_ok h1 hpe (by assumption)])) (li (by first
          | rw[Zk h1]
          | rw[kq h1 (par_none hI0.2.2.1 (by omega) ((kS _).2 (bnot_t h3)))]
          | rw[Zm h1 hpe (by assumption)]
          | rw[parF_ok h1 hpe (by assumption)]))))
 refine E Z (B.adopt 5 2 174 Z Z) (C Z (w116 hp s (by omega)) Z Z Z (E Z (B.jh Z ji) (l3 (fun (k:Nat) (v:Nat) (out:List Fld)=>[(4,.aref 5 v),(14,vL eN (jZ s)),(15,vI ((List.length (jZ s):Nat):Int)),(16,vI k)]) (fun _ v out=>[(5,.arr v 2 174 (List.map eF out))]) (fun k _ out=>k<=List.length (jZ s)/\out.length=k/\Z8 (jZ s)=Option.map (fun r=>out++r) (Z8 (List.drop k (jZ s)))/\(∀ f:Fld,f∈out->f.2.length<=s.length)) (fun k _ _=>List.length (jZ s)-k) 0 0 [] Z ?_ (sb Z Z Z) ?_)))
 · exact⟨zq _,rfl,by simp,fun f hf=>by cases hf⟩
 intro k v out hI0
 refine Cp Z Z (fun h2=>?_) (fun h2=>?_)
 ·refine E Z (B.idx (z:=[]) (i:=k) Z Z ji sz9 (fun _=>rfl) Z (by first|omega|(have hc2:=hc;simp only[beq_iff_eq,zf,zH] at hc2;omega)|(simp only[za,zb,zd,zn,zo];omega))) ?_
  have hpl:=spl_part s [] _ (getD_mem (l:=jZ s) (k:=k) (z:=[]) (by omega))
  simp only[zd,Nat.zero_add] at hpl
  refine C Z (w117 hp (List.getD (jZ s) k []) 61 (by omega)) Z Z Z (Cb Z Z (fun h3=>?_) (fun h3=>?_))
  ·refine E Z (B.j8 (enc:=eF) Z) ?_
   exact Rt Z (leaf (val0:=.tup [vL eF [],vI 25]) (by kernel_rfl) (tup2 (lsl (by first
         | rw[Zk h1]
         | rw[kq h1 (par_none hI0.2.2.1 (by omega) ((kS _).2 (bnot_t h3)))]
         | rw[Zm h1 hpe (by assumption)]
         | rw[parF_ok h1 hpe (by assumption)])) (li (by first
         | rw[Zk h1]
         | rw[kq h1 (par_none hI0.2.2.1 (by omega) ((kS _).2 (bnot_t h3)))]
         | rw[Zm h1 hpe (by assumption)]
         | rw[parF_ok h1 hpe (by assumption)]))))
  refine E Z (B.jj (val:=.pv (.slice (List.map eF [((cut3 (List.getD (jZ s) k []) 61).1,(cut3 (List.getD (jZ s) k []) 61).2.1)]))) Z (fun l=>Frz.arr l _ _ _ _ _) Z) (E Z (B.append Z Z Z un59 in174 Z (fun _=>rfl) by174 (by first|omega|(have hc2:=hc;simp only[beq_iff_eq,zf,zH] at hc2;omega)|(simp only[za,zb,zd,zn,zo];omega))) (E Z (B.add Z Z (by unfold R64;omega)) (pk Z (L3 (k+1) (v+1) (out++[((cut3 (List.getD (jZ s) k []) 61).1,(cut3 (List.getD (jZ s) k []) 61).2.1)]) ?_ ?_ (sb Z Z Z)))))
  · (refine⟨by omega,by simp only[za,zb,zd];omega,par_some hI0.2.2.1 (by omega) ((kS _).1 (bnot_f h3)),out_len hI0.2.2.2 hpl⟩)
  · omega
 have hpe:=par_end hI0.2.2.1 (by omega)
 have hcq:∀ f∈out,f.2.length<=1000000000000000:=fun f hf=>qi (hI0.2.2.2 f hf) (by omega)
 refine Fz 12 4 Z Z Z (C Z (w41 out (by omega) hcq) Z Z Z (Cp Z Z (fun h4=>?_) (fun h4=>?_)))
 ·refine E Z (B.j8 (enc:=eF) Z) ?_
  exact Rt Z (leaf (val0:=.tup [vL eF [],vI (jv out)]) (by kernel_rfl) (tup2 (lsl (by first
        | rw[Zk h1]
        | rw[kq h1 (par_none hI0.2.2.1 (by omega) ((kS _).2 (bnot_t h3)))]
        | rw[Zm h1 hpe (by assumption)]
        | rw[parF_ok h1 hpe (by assumption)])) (li (by first
        | rw[Zk h1]
        | rw[kq h1 (par_none hI0.2.2.1 (by omega) ((kS _).2 (bnot_t h3)))]
        | rw[Zm h1 hpe (by assumption)]
        | rw[parF_ok h1 hpe (by assumption)]))))
 exact Rt Z (leaf (val0:=.tup [vL eF out,vI 0]) (by kernel_rfl) (tup2 (lsl (by first
       | rw[Zk h1]
       | rw[kq h1 (par_none hI0.2.2.1 (by omega) ((kS _).2 (bnot_t h3)))]
       | rw[Zm h1 hpe (by assumption)]
       | rw[parF_ok h1 hpe (by assumption)])) (li (by first
       | rw[Zk h1]
       | rw[kq h1 (par_none hI0.2.2.1 (by omega) ((kS _).2 (bnot_t h3)))]
       | rw[Zm h1 hpe (by assumption)]
       | rw[parF_ok h1 hpe (by assumption)]))))
end Go.Lens.Tm
end
section
namespace Go.Lens.Tb
def badB (start:Int) (W:List Int) (t:Tgt) (e:Int):Int:=qP [ko start W,Zi [t],qG e 0 1440]
def begT (start:Int) (W:List Int) (t:Tgt) (e:Int):Int:=if badB start W t e≠0 then 0 else if begF W t e<0 then 0 else begF W t e
def begE (start:Int) (W:List Int) (t:Tgt) (e:Int):Int:=if badB start W t e≠0 then badB start W t e else if begF W t e<0 then 7 else 0
def badT (start:Int) (W:List Int) (l:List Tgt) (o:List Int):Int:=qP [ko start W,Zi l,chkOrdF l.length o]
def tlT (start:Int) (W:List Int) (l:List Tgt) (o:List Int):List Int:=if badT start W l o≠0 then [] else (tlF start W l o).getD []
def tlE (start:Int) (W:List Int) (l:List Tgt) (o:List Int):Int:=if badT start W l o≠0 then badT start W l o else (bif (tlF start W l o).isSome then 0 else 23)
theorem bad1 {a b c:Int} (h:qP [a,b]≠0):qP [a,b,c]=qP [a,b]:=by
  simp only[qP] at h ⊢
  split
  · rename_i ha
    rw[if_pos ha] at h
    split
    · rename_i hb;rw[if_pos hb] at h;exact absurd Z h
    · rfl
  · rfl
theorem bad2 {a b c:Int} (h:qP [a,b]=0):qP [a,b,c]=c:=by
  simp only[qP] at h ⊢
  split
  · rename_i ha
    rw[if_pos ha] at h
    split
    · split
      · rename_i hc;exact hc.symm
      · rfl
    · rename_i hb;rw[if_neg hb] at h;exact absurd h hb
  · rename_i ha;rw[if_neg ha] at h;exact absurd h ha
theorem tl_ok {start:Int} {W:List Int} {l:List Tgt} {o:List Int} (h:qP [ko start W,Zi l]=0) (h2:chkOrdF l.length o=0):tlT start W l o=(tlF start W l o).getD []/\tlE start W l o=bif (tlF start W l o).isSome then 0 else 23:=by
  have e:badT start W l o=0:=(bad2 h).trans h2
  unfold tlT tlE
  rw[e,if_neg (by simp),if_neg (by simp)];exact⟨rfl,rfl⟩
section
variable {start:Int} {W:List Int} {l:List Tgt} {o:List Int} {t:Tgt} {e:Int}
theorem bt_of (h:qP [ko start W,Zi l,chkOrdF ((l.length:Nat):Int) o]=0):qP [ko start W,Zi l]=0/\chkOrdF l.length o=0:=by
  by_cases h1:qP [ko start W,Zi l]=0
  · exact⟨h1,(bad2 h1).symm.trans h⟩
  · exact absurd ((bad1 h1).symm.trans h) h1
theorem g0 {A B:Int} (h:(bif decide (A≠A) then true else decide (B≠B))=true):false=true:=by
  simp at h
theorem g1 (h0:qP [ko start W,Zi l,chkOrdF ((l.length:Nat):Int) o]=0)
    (h:(bif decide (tlE start W l o≠qF (!(tlF start W l o).isSome) 23) then true else !(decide (tlT start W l o=(tlF start W l o).getD [])))=true):false=true:=by
  obtain⟨h1,h2⟩:=bt_of h0
  obtain⟨e1,e2⟩:=tl_ok h1 h2
  rw[e1,e2] at h
  unfold qF at h
  cases hs:(tlF start W l o).isSome<;>rw[hs] at h<;>simp at h
theorem g2 (h0:¬qP [ko start W,Zi l,chkOrdF ((l.length:Nat):Int) o]=0)
    (h:(bif decide (tlE start W l o≠qP [ko start W,Zi l,chkOrdF ((l.length:Nat):Int) o]) then true else !(decide (tlT start W l o=[])))=true):false=true:=by
  have e1:tlT start W l o=[]:=by unfold tlT badT;rw[if_pos h0]
  have e2:tlE start W l o=qP [ko start W,Zi l,chkOrdF ((l.length:Nat):Int) o]:=by unfold tlE badT;rw[if_pos h0]
  rw[e1,e2] at h
  simp at h
theorem f1 (h:¬badB start W t e=0):(bif (bif decide (begE start W t e=badB start W t e) then decide (begT start W t e=0) else false) then true else false)=true:=by
  unfold begE begT;rw[if_pos h,if_pos h];simp
theorem f2 (h:badB start W t e=0) (h2:begF W t e<0):(bif (bif decide (begE start W t e=7) then decide (begT start W t e=0) else false) then true else false)=true:=by
  unfold begE begT;simp[h,h2]
theorem f3 (h:badB start W t e=0) (h2:¬begF W t e<0):(bif (bif decide (begE start W t e=badB start W t e) then decide (begT start W t e=begF W t e) else false) then true else false)=true:=by
  unfold begE begT;simp[h,h2]
end
end Go.Lens.Tb
end
section
namespace Go.Lens.Tb
open Go.Proofs
structure Ch where
 order:List Int
 bright:Int
 end_:Int
theorem PK.nil [Lz] {P:Program} {n nb:Nat} {Q:Exit->St->Prop} {s:St} (h:Q .normal s):PK P n nb Q [] .normal s:=h
end Go.Lens.Tb
end
section
namespace Go.Lens.Tm
open Go.Lens.Tb Go.Proofs
variable [Lz]
def joinF:List (List UInt8)->List UInt8
 | []=>[]
 | w::r=>w++r.flatMap fun x=>32::x
def jE:Prop:=∀ ws:List (List UInt8),ws.length<=1000->(∀ w∈ws,w.length<=1000)->CKa 169 [vL eN ws,vS (bsO [32])] (vS (bsO (joinF ws)))
theorem join_snoc (l:List (List UInt8)) (w:List UInt8) (h:l≠[]):joinF (l++[w])=joinF l++32::w:=by
 cases l with
 | nil=>exact absurd Z h
 | cons a l=>simp[joinF]
theorem join_prt (l:List Fld):∀ k,k<=l.length->joinF ((l.take k).map fldP)=prtK l k
 | 0,_=>rfl
 | k+1,hk=>by
  have ih:=join_prt l k (by omega)
  rw[take_fld l k (by omega),qd,zw,zZ]
  simp only[prtK]
  by_cases h0:0<k
  ·rw[join_snoc _ _ (by
     intro e
     have:=congrArg List.length e
     rw[zJ,zn,zd] at this
     omega),ih,zl h0]
   simp[fldP]
  have:k=0:=by omega
  subst this
  simp[joinF,fldP,prtK]
theorem join_all (l:List Fld):joinF (l.map fldP)=prtF l:=by
 have:=join_prt l l.length (zz _)
 rwa [zx (zz _)] at this
theorem words_le {l:List Fld} (h:l.length<=26/\∀ f∈l,f.1.length<=60/\f.2.length<=100):∀ w∈l.map fldP,w.length<=1000:=by
 intro w hw
 obtain⟨f,hf,rfl⟩:=zE.1 hw
 have:=h.2 f hf
 simp only[fldP,za,zb,zd];omega
theorem parF_cases (s:List UInt8):(kW s).1=[]\/jv (kW s).1=0:=by
 unfold kW
 split
 ·exact .inl rfl
 split
 ·exact .inl rfl
 rename_i l _
 by_cases hq:jv l=0
 ·right
  show jv (if jv l=0 then (l,0) else ([],jv l)).1=0
  rw[if_pos hq];exact hq
 left
 show (if jv l=0 then (l,0) else ([],jv l)).1=[]
 rw[if_neg hq]
theorem parF_fit (s:List UInt8):(kW s).1.length<=26/\∀ f∈(kW s).1,f.1.length<=60/\f.2.length<=100:=by
 rcases parF_cases s with h|h
 ·rw[h];exact⟨by simp,fun f hf=>by cases hf⟩
 obtain⟨h1,h2⟩:=chk_parts h
 refine⟨by omega,fun f hf=>?_⟩
 obtain⟨j,hj,rfl⟩:=mem_getD ([],[]) hf
 have:=chkF_len (h2 j hj).1
 omega
def reb (g:List UInt8->Option (List UInt8)):List (List UInt8)->List Fld
 | []=>[]
 | x::N=>if (g x).isSome then (x,(g x).getD [])::reb g N else reb g N
def chF (B M T:List Fld) (x:List UInt8):Option (List UInt8):=if jn x M=jn x T then jn x M else if jn x M=jn x B then jn x T else jn x M
def okF (B M T:List Fld) (x:List UInt8):Prop:=jn x M=jn x T\/jn x M=jn x B\/jn x T=jn x B
instance (B M T:List Fld) (x:List UInt8):Decidable (okF B M T x):=inferInstanceAs (Decidable (_\/_\/_))
theorem rm_fst (B M T:List Fld):∀ N,(rmGo B M T N).1=reb (chF B M T) N
 | []=>rfl
 | x::N=>by rw[reb,<-rm_fst B M T N];rfl
theorem nm_srt (A:List Fld):(ZH A).Pairwise (· < ·):=(foldS A [] List.Pairwise.nil).1
end Go.Lens.Tm
end
section
namespace Go.Lens.Tm
open Go.Lens.Tb Go.Proofs
variable [Lz]
set_option maxHeartbeats 4000000
set_option maxRecDepth 100000
attribute [local irreducible] TK PK T RG EfR Body CG
theorem w115 (hj:jE) (l:List Fld) (hb:l.length<=26/\∀ f∈l,f.1.length<=60/\f.2.length<=100):CKa 115 [vL eF l] (vS (bsO (prtF l))):=by
 refine cG qf115 Z (nB Z) Z (E Z (B.adopt 4 1 9 Z Z) (E Z (B.jh Z un59) (l3 (fun (k:Nat) (v:Nat) (out:List (List UInt8))=>[(3,.aref 4 v),(6,vL eF l),(7,vI l.length),(8,vI k)]) (fun _ v out=>[(4,.arr v 1 9 (List.map eN out))]) (fun k _ out=>k<=l.length/\out.length=k/\out=List.map fldP (List.take k l)) (fun k _ _=>l.length-k) 0 0 [] Z ?_ (sb Z Z Z) ?_)))
 · exact⟨zq _,rfl,rfl⟩
 intro k v out hI0
 refine Cp Z Z (fun h1=>?_) (fun h1=>?_)
 ·refine E Z (B.idx (z:=([],[])) (i:=k) Z Z un59 sz174 (fun _=>rfl) Z (by omega)) ?_
  have hkb:=hb.2 _ (getD_mem (l:=l) (k:=k) (z:=([],[])) (by omega))
  refine E Z (B.catB (a:=(l.getD k ([],[])).1) (b:=[61]) Z Z (by (simp only[za,zb,zd];omega))) (E Z (B.catB (a:=((l.getD k ([],[])).1++[61])) (b:=(l.getD k ([],[])).2) Z Z (by (simp only[za,zb,zd];omega))) (E Z (B.jj (val:=.pv (.slice (List.map eN [(((l.getD k ([],[])).1++[61])++(l.getD k ([],[])).2)]))) Z (fun l=>Frz.arr l _ _ _ _ _) Z) (E Z (B.append Z Z Z ji in9 Z (fun _=>rfl) by9 (by (simp only[za,zb,zd,zn,zo];omega))) (E Z (B.add Z Z (by unfold R64;omega)) (pk Z (L3 (k+1) (v+1) (out++[(((l.getD k ([],[])).1++[61])++(l.getD k ([],[])).2)]) ?_ ?_ (sb Z Z Z)))))))
  · (refine⟨by omega,by simp only[za,zb,zd];omega,?_⟩;rw[take_fld l k (by omega),qd,hI0.2.2];rfl)
  · omega
 have hou:out=l.map fldP:=by rw[hI0.2.2,zx (by omega)]
 have hjw:∀ w∈out,w.length<=1000:=by rw[hou];exact words_le hb
 exact Fz 7 3 Z Z Z (C Z (hj out (by omega) hjw) Z Z Z (Rt Z (leaf (val0:=vS (bsO (joinF out))) (by kernel_rfl) (ls (by rw[hou,join_all l])))))
end Go.Lens.Tm
end
section
namespace Go.Lens
variable [Lz]
section
variable {P:Program} {Y:Tab} [qU P Y] {nb:Nat} {s:St} {dst:Option Tmp} {ty u:TypeId} {pos:String} {af:Array Edge} {gd:Option (Nat×Bool)} {t:TypeId} {x y:Operand}
theorem B.bnB {p q:Bool} (hx:ev1 s x=lit (.bool p)) (hy:ev1 s y=lit (.bool q)) (und:Y.underlying t=some .bool):Body P Y nb s ⟨dst,.binOp .neq t x y u,ty,pos,af,gd⟩ (lit (.bool (!(p==q)))) [] []:=by
 refine B.bin hx hy ?_
 have h3:binQ Y .neq t (lit (.bool p)) (lit (.bool q))=some (true,lit (.bool (!(p==q)))):=by
  simp only[binQ,lit,und]
 show qE (binW Y .neq t (qx []) (ZC y) (lit (.bool p)) (lit (.bool q)))=_
 have h4:binW Y .neq t (qx []) (ZC y) (lit (.bool p)) (lit (.bool q))=some (true,lit (.bool (!(p==q)))):=by
  unfold binW
  simp only[lit] at h3 ⊢
  simp only[nilQ,nilKind,samePQ,h3]
 rw[h4];rfl
end
end Go.Lens
namespace Go.Lens.Tm
open Go.Lens.Tb Go.Proofs
variable [Lz]
abbrev Fit (l:List Fld):Prop:=l.length<=26/\∀ f∈l,f.1.length<=60/\f.2.length<=100
end Go.Lens.Tm
end
section
namespace Go.Lens.Tm
open Go.Lens.Tb Go.Proofs
abbrev Cmd:=List UInt8×List UInt8×Int
def eC (c:Cmd):List PV:=[.lit (.string (bsO (Prod.fst c))),.lit (.string (bsO (Prod.fst (Prod.snd c)))),.lit (.int .i64 (Prod.snd (Prod.snd c)))]
abbrev gC (c:Cmd):PV:=.agg [pS (bsO c.1),pS (bsO c.2.1),pI c.2.2]
abbrev bC (t:TypeId) (c:Cmd):MO:=.box t [vS (bsO c.1),vS (bsO c.2.1),vI c.2.2]
abbrev z3:Cmd:=([],[],0)
abbrev jV:List UInt8:=[97,99,116]
abbrev kEnd:List UInt8:=[101,110,100]
abbrev Z7:List UInt8:=[119,97,105,116]
abbrev ZA:List UInt8:=[114,101,112,101,97,116]
def jW (o:List UInt8):Int:=if o=jV then 2 else if o=Z7 then 2 else if o=ZA then 2 else if o=kEnd then 1 else 0
def jI (c:Cmd):Int:=
 if c.1=jV then qP [qF (!(qV (bsO c.2.1))) 8,qG c.2.2 0 0]
 else if c.1=kEnd then qP [qF (decide (c.2.1≠[])) 1,qG c.2.2 0 0]
 else if c.1=Z7 then qP [qF (decide (c.2.1≠[])) 1,qG c.2.2 1 100000]
 else if c.1=ZA then qP [qF (decide (c.2.1≠[])) 1,qG c.2.2 1 100]
 else 13
def badC:List Cmd->Int
 | []=>0
 | c::l=>if jI c=0 then badC l else jI c
def depC:Nat->List Cmd->Int
 | d,[]=>if 0<d then 2 else 0
 | d,c::l=>if c.1=ZA then (if d=4 then 22 else depC (d+1) l) else if c.1=kEnd then (if d=0 then 2 else depC (d-1) l) else depC d l
def kX:Int->List (Int×Int)->List Cmd->Int
 | s,_,[]=>s
 | s,st,c::l=>if c.1=ZA then kX 1 ((s,c.2.2)::st) l else if c.1=kEnd then (match st with
   | []=>s
   | p::st=>kX (p.1+p.2*s) st l) else kX (s+1) st l
theorem jM (s:Int) (st:List (Int×Int)) (c:Cmd) (l:List Cmd):kX s st (c::l)=if c.1=ZA then kX 1 ((s,c.2.2)::st) l else if c.1=kEnd then (match st with
   | []=>s
   | p::st=>kX (p.1+p.2*s) st l) else kX (s+1) st l:=by cases st<;>rfl
def kH (l:List Cmd):Int:=kX 0 [] l
def chkS (l:List Cmd):Int:=if 64<l.length then 5 else if badC l≠0 then badC l else if depC 0 l≠0 then depC 0 l else qF (decide (10000<kH l)) 22
def j3:Int->Nat->List Cmd->Nat
 | _,i,[]=>i
 | d,i,c::l=>if c.1=ZA then j3 (d+1) (i+1) l else if c.1=kEnd then (if d-1=0 then i else j3 (d-1) (i+1) l) else j3 d (i+1) l
def smL:List (Int×Int)->Int->List Int
 | [],s=>[s]
 | p::st,s=>smL st p.1++[s]
def cnL:List (Int×Int)->List Int
 | []=>[]
 | p::st=>cnL st++[p.2]
theorem dropC {l:List Cmd} {k:Nat} (h:k<l.length):l.drop k=l.getD k z3::l.drop (k+1):=by
 rw[ze,zm h,zP]
 exact List.drop_eq_getElem_cons h
theorem badC_ok {l:List Cmd} {k:Nat} (h:k<l.length) (h0:jI (l.getD k z3)=0):badC (l.drop k)=badC (l.drop (k+1)):=by
 rw[dropC h,badC,if_pos h0]
theorem badC_no {l:List Cmd} {k:Nat} (h:k<l.length) (h0:jI (l.getD k z3)≠0):badC (l.drop k)=jI (l.getD k z3):=by
 rw[dropC h,badC,if_neg h0]
theorem badC_all:∀ {l:List Cmd},badC l=0->∀ c∈l,jI c=0
 | [],_,c,hc=>by cases hc
 | a::l,h,c,hc=>by
  rw[badC] at h
  by_cases ha:jI a=0
  ·rw[if_pos ha] at h
   rcases zF.1 hc with rfl|hc
   ·exact ha
   exact badC_all h c hc
  rw[if_neg ha] at h;exact absurd h ha
theorem kO:ZA≠kEnd:=by decide
theorem dep_rep {l:List Cmd} {k d:Nat} (h:k<l.length) (h0:(l.getD k z3).1=ZA):depC d (l.drop k)=if d=4 then 22 else depC (d+1) (l.drop (k+1)):=by
 rw[dropC h,depC,if_pos h0]
theorem dep_end {l:List Cmd} {k d:Nat} (h:k<l.length) (h0:(l.getD k z3).1=kEnd):depC d (l.drop k)=if d=0 then 2 else depC (d-1) (l.drop (k+1)):=by
 rw[dropC h,depC,if_neg (by rw[h0];exact Ne.symm kO),if_pos h0]
theorem dep_one {l:List Cmd} {k d:Nat} (h:k<l.length) (h0:(l.getD k z3).1≠ZA) (h1:(l.getD k z3).1≠kEnd):depC d (l.drop k)=depC d (l.drop (k+1)):=by
 rw[dropC h,depC,if_neg h0,if_neg h1]
theorem len_rep {l:List Cmd} {k:Nat} {s:Int} {st:List (Int×Int)} (h:k<l.length) (h0:(l.getD k z3).1=ZA):kX s st (l.drop k)=kX 1 ((s,(l.getD k z3).2.2)::st) (l.drop (k+1)):=by
 rw[dropC h,jM,if_pos h0]
theorem len_end {l:List Cmd} {k:Nat} {s:Int} {p:Int×Int} {st:List (Int×Int)} (h:k<l.length) (h0:(l.getD k z3).1=kEnd):kX s (p::st) (l.drop k)=kX (p.1+p.2*s) st (l.drop (k+1)):=by
 rw[dropC h,jM,if_neg (by rw[h0];exact Ne.symm kO),if_pos h0]
theorem len_one {l:List Cmd} {k:Nat} {s:Int} {st:List (Int×Int)} (h:k<l.length) (h0:(l.getD k z3).1≠ZA) (h1:(l.getD k z3).1≠kEnd):kX s st (l.drop k)=kX (s+1) st (l.drop (k+1)):=by
 rw[dropC h,jM,if_neg h0,if_neg h1]
theorem mat_rep {l:List Cmd} {k:Nat} {d:Int} (h:k<l.length) (h0:(l.getD k z3).1=ZA):j3 d k (l.drop k)=j3 (d+1) (k+1) (l.drop (k+1)):=by
 rw[dropC h,j3,if_pos h0]
theorem mat_end {l:List Cmd} {k:Nat} {d:Int} (h:k<l.length) (h0:(l.getD k z3).1=kEnd):j3 d k (l.drop k)=if d-1=0 then k else j3 (d-1) (k+1) (l.drop (k+1)):=by
 rw[dropC h,j3,if_neg (by rw[h0];exact Ne.symm kO),if_pos h0]
theorem mat_one {l:List Cmd} {k:Nat} {d:Int} (h:k<l.length) (h0:(l.getD k z3).1≠ZA) (h1:(l.getD k z3).1≠kEnd):j3 d k (l.drop k)=j3 d (k+1) (l.drop (k+1)):=by
 rw[dropC h,j3,if_neg h0,if_neg h1]
theorem mat_nil {l:List Cmd} {k:Nat} {d:Int} (h:k=l.length):j3 d k (l.drop k)=k:=by
 rw[zN (by omega)];rfl
theorem smL_len:∀ (st:List (Int×Int)) (s:Int),(smL st s).length=st.length+1
 | [],_=>rfl
 | p::st,s=>by rw[smL,za,smL_len st];rfl
theorem cnL_len:∀ (st:List (Int×Int)),(cnL st).length=st.length
 | []=>rfl
 | p::st=>by rw[cnL,za,cnL_len st];rfl
theorem smL_get:∀ (st:List (Int×Int)) (s:Int),(smL st s).getD st.length 0=s
 | [],_=>rfl
 | p::st,s=>by
  rw[smL,ze,z8 (by rw[smL_len];simp),smL_len]
  simp
theorem smL_get2 (p:Int×Int) (st:List (Int×Int)) (s:Int):(smL (p::st) s).getD st.length 0=p.1:=by
 rw[smL,ze,qa (by rw[smL_len];omega),<-ze]
 exact smL_get st p.1
theorem cnL_get (p:Int×Int) (st:List (Int×Int)):(cnL (p::st)).getD st.length 0=p.2:=by
 rw[cnL,ze,z8 (by rw[cnL_len];omega),cnL_len]
 simp
theorem smL_set:∀ (st:List (Int×Int)) (s v:Int),(smL st s).set st.length v=smL st v
 | [],_,_=>rfl
 | p::st,s,v=>by
  rw[smL,List.set_append_right _ _ (by rw[smL_len];simp),smL_len]
  simp[smL]
theorem smL_pop (p:Int×Int) (st:List (Int×Int)) (s v:Int):((smL (p::st) s).set st.length v).take (st.length+1)=smL st v:=by
 rw[smL,List.set_append_left _ _ (by rw[smL_len];omega),smL_set,zK (by rw[smL_len];omega),zx (by rw[smL_len];omega)]
theorem cnL_pop (p:Int×Int) (st:List (Int×Int)):(cnL (p::st)).take st.length=cnL st:=by
 rw[cnL,zK (by rw[cnL_len];omega),zx (by rw[cnL_len];omega)]
theorem with_rng {n a b:Int} (h:qG n a b=0):a<=n/\n<=b:=by
 unfold qG qF Zw at h
 by_cases h1:n<a
 ·simp[h1] at h
 by_cases h2:b<n
 ·simp[h2] at h
 omega
theorem first2 {a b:Int} (h:qP [a,b]=0):a=0/\b=0:=by
 simp only[qP] at h
 split at h
 ·rename_i ha
  split at h
  ·rename_i hb;exact⟨ha,hb⟩
  rename_i hb;exact absurd h hb
 rename_i ha;exact absurd h ha
theorem cnt_rep {c:Cmd} (h:jI c=0) (h0:c.1=ZA):1<=c.2.2/\c.2.2<=100:=by
 unfold jI at h
 rw[h0] at h
 rw[if_neg (by decide),if_neg (by decide),if_neg (by decide),if_pos Z] at h
 exact with_rng (first2 h).2
theorem cnt_wait {c:Cmd} (h:jI c=0) (h0:c.1=Z7):1<=c.2.2/\c.2.2<=100000:=by
 unfold jI at h
 rw[h0] at h
 rw[if_neg (by decide),if_neg (by decide),if_pos Z] at h
 exact with_rng (first2 h).2
theorem ops_of {c:Cmd} (h:jI c=0):c.1=jV\/c.1=kEnd\/c.1=Z7\/c.1=ZA:=by
 unfold jI at h
 split at h
 ·exact .inl ‹_›
 split at h
 ·exact .inr (.inl ‹_›)
 split at h
 ·exact .inr (.inr (.inl ‹_›))
 split at h
 ·exact .inr (.inr (.inr ‹_›))
 cases h
theorem len_ge:∀ {l:List Cmd} {s:Int} {st:List (Int×Int)},depC st.length l=0->(∀ c∈l,jI c=0)->0<=s->(∀ p∈st,0<=p.1/\1<=p.2)->s<=kX s st l/\∀ p∈st,p.1<=kX s st l
 | [],s,st,hd,_,_,_=>by
  rw[depC] at hd
  have:st.length=0:=by
   split at hd
   ·cases hd
   omega
  obtain rfl:=zL this
  exact⟨Int.le_refl _,fun p hp=>by cases hp⟩
 | c::l,s,st,hd,hc,hs,hst=>by
  have hcl:∀ c∈l,jI c=0:=fun x hx=>hc x (zO _ hx)
  rw[depC] at hd
  rw[jM]
  by_cases h1:c.1=ZA
  ·rw[if_pos h1] at hd ⊢
   have hr:=cnt_rep (hc c (qm ..)) h1
   split at hd
   ·cases hd
   have:=len_ge (s:=1) (st:=(s,c.2.2)::st) hd hcl (by omega) (by
    intro p hp
    rcases zF.1 hp with rfl|hp
    ·exact⟨hs,hr.1⟩
    exact hst p hp)
   exact⟨this.2 _ (qm ..),fun p hp=>this.2 p (zO _ hp)⟩
  rw[if_neg h1] at hd ⊢
  by_cases h2:c.1=kEnd
  ·rw[if_pos h2] at hd ⊢
   match st,hd,hst with
   | [],hd,_=>simp at hd
   | p::st,hd,hst=>
    simp only[zb,Nat.add_sub_cancel] at hd
    rw[if_neg (by omega)] at hd
    have hp:=hst p (qm ..)
    have hm:s<=p.2*s:=by
     have:=Int.mul_le_mul_of_nonneg_right hp.2 hs
     omega
    have:=len_ge (s:=p.1+p.2*s) (st:=st) hd hcl (by omega) (fun q hq=>hst q (zO _ hq))
    refine⟨by show s<=kX (p.1+p.2*s) st l;omega,fun q hq=>?_⟩
    rcases zF.1 hq with rfl|hq
    ·show q.1<=kX (q.1+q.2*s) st l;omega
    exact this.2 q hq
  rw[if_neg h2] at hd ⊢
  have:=len_ge (s:=s+1) (st:=st) hd hcl (by omega) hst
  exact⟨by omega,this.2⟩
inductive Wf:Nat->List Cmd->Prop
 | nil (d:Nat):Wf d []
 | one {d:Nat} {c:Cmd} {l:List Cmd}:c.1≠ZA->c.1≠kEnd->Wf d l->Wf d (c::l)
 | rep {d:Nat} {c e:Cmd} {b l:List Cmd}:c.1=ZA->e.1=kEnd->Wf d b->Wf (d+1) l->Wf (d+1) (c::(b++e::l))
theorem wf_len {d:Nat} {l:List Cmd} (h:Wf d l):∀ (s:Int) (st:List (Int×Int)) (r:List Cmd),kX s st (l++r)=kX (s+kH l) st r:=by
 induction h with
 | nil d=>intro s st r;rw[zW];simp[kH,kX]
 | @one d c l h1 h2 h ih=>
  intro s st r
  have e:kH (c::l)=1+kH l:=by
   have:=ih 1 [] []
   rw[zS] at this
   rw[kH,jM,if_neg h1,if_neg h2,Int.zero_add,this];rfl
  rw[zQ,jM,if_neg h1,if_neg h2,ih,e,Int.add_assoc]
 | @rep d c e b l h1 h2 hb hl ihb ihl=>
  have key:∀ (s:Int) (st:List (Int×Int)) (r:List Cmd),kX s st ((c::(b++e::l))++r)=kX (s+(c.2.2*(1+kH b)+kH l)) st r:=by
   intro s st r
   rw[zQ,jM,if_pos h1,z7,ihb,zQ,jM,if_neg (by rw[h2];exact Ne.symm kO),if_pos h2]
   show kX (s+c.2.2*(1+kH b)) st (l++r)=_
   rw[ihl,Int.add_assoc]
  have e0:kH (c::(b++e::l))=c.2.2*(1+kH b)+kH l:=by
   have:=key 0 [] []
   rw[zS,Int.zero_add] at this
   exact this
  intro s st r
  rw[key,e0]
theorem wf_one_len {d:Nat} {c:Cmd} {l:List Cmd} (h1:c.1≠ZA) (h2:c.1≠kEnd) (h:Wf d l):kH (c::l)=1+kH l:=by
 have:=wf_len h 1 [] []
 rw[zS] at this
 rw[kH,jM,if_neg h1,if_neg h2,Int.zero_add,this];rfl
theorem wf_rep_len {d:Nat} {c e:Cmd} {b l:List Cmd} (h1:c.1=ZA) (h2:e.1=kEnd) (hb:Wf d b) (hl:Wf (d+1) l):kH (c::(b++e::l))=c.2.2*(1+kH b)+kH l:=by
 have h3:=wf_len hl (c.2.2*(1+kH b)) [] []
 rw[zS] at h3
 rw[kH,jM,if_pos h1,wf_len hb,jM,if_neg (by rw[h2];exact Ne.symm kO),if_pos h2]
 show kX (0+c.2.2*(1+kH b)) [] l=_
 rw[Int.zero_add,h3];rfl
theorem wf_mat {d:Nat} {l:List Cmd} (h:Wf d l):∀ (q:Int) (i:Nat) (r:List Cmd),1<=q->j3 q i (l++r)=j3 q (i+l.length) r:=by
 induction h with
 | nil d=>intro q i r _;rfl
 | @one d c l h1 h2 h ih=>
  intro q i r hq
  rw[zQ,j3,if_neg h1,if_neg h2,ih _ _ _ hq,zb]
  congr 1;omega
 | @rep d c e b l h1 h2 hb hl ihb ihl=>
  intro q i r hq
  rw[zQ,j3,if_pos h1,z7,ihb _ _ _ (by omega),zQ,j3,if_neg (by rw[h2];exact Ne.symm kO),if_pos h2,if_neg (by omega),show q+1-1=q by omega,ihl _ _ _ hq]
  congr 1
  simp only[zb,za];omega
def Op:Nat->List Cmd->Prop
 | 0,l=>Wf 4 l
 | k+1,l=>∃ b e r,l=b++e::r/\e.1=kEnd/\Wf (4-(k+1)) b/\Op k r
theorem op_of:∀ {l:List Cmd} {k:Nat},k<=4->depC k l=0->Op k l
 | [],k,_,h=>by
  rw[depC] at h
  have:k=0:=by
   split at h
   ·cases h
   omega
  subst this
  exact Wf.nil 4
 | c::l,k,hk,h=>by
  rw[depC] at h
  by_cases h1:c.1=ZA
  ·rw[if_pos h1] at h
   split at h
   ·cases h
   rename_i h4
   obtain⟨b,e,r,rfl,he,hb,hr⟩:=op_of (k:=k+1) (by omega) h
   cases k with
   | zero=>exact Wf.rep h1 he hb hr
   | succ j=>
    obtain⟨b2,e2,r2,rfl,he2,hb2,hr2⟩:=hr
    refine⟨c::(b++e::b2),e2,r2,by simp,he2,?_,hr2⟩
    have:4-(j+1)=(4-(j+1+1))+1:=by omega
    rw[this] at hb2 ⊢
    exact Wf.rep h1 he hb hb2
  rw[if_neg h1] at h
  by_cases h2:c.1=kEnd
  ·rw[if_pos h2] at h
   split at h
   ·cases h
   rename_i h0
   cases k with
   | zero=>exact absurd Z h0
   | succ j=>exact⟨[],c,l,rfl,h2,Wf.nil _,op_of (k:=j) (by omega) h⟩
  rw[if_neg h2] at h
  have ih:=op_of hk h
  cases k with
  | zero=>exact Wf.one h1 h2 ih
  | succ j=>
   obtain⟨b,e,r,rfl,he,hb,hr⟩:=ih
   exact⟨c::b,e,r,rfl,he,Wf.one h1 h2 hb,hr⟩
theorem wf_of {l:List Cmd} (h:depC 0 l=0):Wf 4 l:=op_of (k:=0) (by omega) h
theorem one_le_101 (d:Nat):(1:Int)<=101 ^ d:=by
 have h:(1:Nat)<=101 ^ d:=Nat.one_le_pow _ _ (by decide)
 have e:((101:Int) ^ d)=(((101:Nat) ^ d:Nat):Int):=by simp
 rw[e];omega
theorem wf_nn {d:Nat} {l:List Cmd} (h:Wf d l) (hc:∀ c∈l,jI c=0):0<=kH l/\kH l<=l.length*101 ^ d:=by
 induction h with
 | nil d=>simp[kH,kX]
 | @one d c l h1 h2 h ih=>
  have:=ih fun x hx=>hc x (zO _ hx)
  rw[wf_one_len h1 h2 h]
  have hp:(1:Int)<=101 ^ d:=one_le_101 _
  have:((c::l).length:Int)*101 ^ d=(l.length:Int)*101 ^ d+101 ^ d:=by
   rw[zb,Int.natCast_add,Int.add_mul];simp
  omega
 | @rep d c e b l h1 h2 hb hl ihb ihl=>
  have kb:=ihb fun x hx=>hc x (by simp[hx])
  have kl:=ihl fun x hx=>hc x (by simp[hx])
  have hr:=cnt_rep (hc c (qm ..)) h1
  rw[wf_rep_len h1 h2 hb hl]
  have hp:(1:Int)<=101 ^ d:=one_le_101 _
  have n0:0<=c.2.2*(1+kH b):=Int.mul_nonneg (by omega) (by omega)
  have n1:c.2.2*(1+kH b)<=101*((1+b.length)*101 ^ d):=by
   have a1:c.2.2*(1+kH b)<=101*(1+kH b):=Int.mul_le_mul_of_nonneg_right (by omega) (by omega)
   have a2:101*(1+kH b)<=101*((1+b.length)*101 ^ d):=Int.mul_le_mul_of_nonneg_left (by rw[Int.add_mul];omega) (by decide)
   omega
  have e1:101*((1+(b.length:Int))*101 ^ d)=(1+b.length)*101 ^ (d+1):=by
   rw[Int.pow_succ];rw[Int.mul_comm 101,Int.mul_assoc]
  have e2:((c::(b++e::l)).length:Int)*101 ^ (d+1)=(1+b.length)*101 ^ (d+1)+l.length*101 ^ (d+1)+101 ^ (d+1):=by
   have:((c::(b++e::l)).length:Int)=(1+b.length)+l.length+1:=by simp only[zb,za];omega
   rw[this,Int.add_mul,Int.add_mul];simp
  have hp2:(1:Int)<=101 ^ (d+1):=one_le_101 _
  omega
theorem wf_small {d:Nat} {l:List Cmd} (h:Wf d l) (hd:d<=4) (hc:∀ c∈l,jI c=0) (hl:l.length<=64):0<=kH l/\kH l<=7000000000:=by
 obtain⟨h1,h2⟩:=wf_nn h hc
 refine⟨h1,?_⟩
 have hp:(101:Int) ^ d<=101 ^ 4:=by
  have:d=0\/d=1\/d=2\/d=3\/d=4:=by omega
  rcases this with rfl|rfl|rfl|rfl|rfl<;>decide
 have h3:(l.length:Int)*101 ^ d<=64*101 ^ 4:=by
  have a1:(l.length:Int)*101 ^ d<=l.length*101 ^ 4:=Int.mul_le_mul_of_nonneg_left hp (by omega)
  have a2:(l.length:Int)*101 ^ 4<=64*101 ^ 4:=Int.mul_le_mul_of_nonneg_right (by omega) (by decide)
  omega
 have:(64:Int)*101 ^ 4=6659865664:=by decide
 omega
theorem wf_at {d:Nat} {l:List Cmd} {i:Nat} (hw:Wf d (l.drop i)) (hi:i<l.length) (h0:(l.getD i z3).1=ZA) :
  ∃ (d' n:Nat),d=d'+1/\n=j3 0 i (l.drop i)/\i+1<=n/\n<l.length/\Wf d' ((l.take n).drop (i+1))/\Wf d (l.drop (n+1))/\kH (l.drop i)=(l.getD i z3).2.2*(1+kH ((l.take n).drop (i+1)))+kH (l.drop (n+1)):=by
 have hd:=dropC hi
 generalize hq:l.drop i=q at hw hd
 cases hw with
 | nil d=>cases hd
 | one h1 h2 h=>cases hd;exact absurd h0 h1
 | @rep d' c e b r h1 h2 hb hr=>
  injection hd with k1 k2
  have hm:j3 0 i (c::(b++e::r))=i+1+b.length:=by
   rw[j3,if_pos h1,wf_mat hb _ _ _ (by omega),j3,if_neg (by rw[h2];exact Ne.symm kO),if_pos h2,if_pos (by omega)]
  have hlen:l.length=i+1+b.length+1+r.length:=by
   have:=congrArg List.length hq
   simp only[zo,zb,za] at this
   omega
  have htb:(l.take (i+1+b.length)).drop (i+1)=b:=by
   rw[List.drop_take,<-k2,show i+1+b.length-(i+1)=b.length by omega,List.take_left]
  have hdr:l.drop (i+1+b.length+1)=r:=by
   rw[show i+1+b.length+1=(i+1)+(b.length+1) by omega,<-List.drop_drop,<-k2,<-List.drop_drop,List.drop_left];rfl
  refine⟨d',i+1+b.length,rfl,hm.symm,by omega,by omega,by rw[htb];exact hb,by rw[hdr];exact hr,?_⟩
  rw[htb,hdr,<-k1]
  exact wf_rep_len h1 h2 hb hr
theorem wf_next {d:Nat} {l:List Cmd} {i:Nat} (hw:Wf d (l.drop i)) (hi:i<l.length) (h0:(l.getD i z3).1≠ZA):(l.getD i z3).1≠kEnd/\Wf d (l.drop (i+1))/\kH (l.drop i)=1+kH (l.drop (i+1)):=by
 have hd:=dropC hi
 generalize hq:l.drop i=q at hw hd
 cases hw with
 | nil d=>cases hd
 | one h1 h2 h=>
  injection hd with k1 k2
  rw[<-k1,<-k2]
  exact⟨h2,h,wf_one_len h1 h2 h⟩
 | rep h1 h2 hb hr=>injection hd with k1 k2;rw[k1] at h1;exact absurd h1 h0
end Go.Lens.Tm
end
section
namespace Go.Lens
variable [Lz]
section
variable {P:Program} {Y:Tab} [qU P Y] {nb:Nat} {s:St} {dst:Option Tmp} {ty u:TypeId} {pos:String} {af:Array Edge} {gd:Option (Nat×Bool)} {t:TypeId} {x y z:Operand}
theorem B.loadE {α:Type} {enc:α->List PV} {l:List α} {z0:α} {p:PV} {h v sz n:Nat} {T:TypeId} (hx:ev1 s x=.eref h v n 0) (hm:qx s.ms h=some (.arr v sz T (l.map enc))) (ha:aggT Y t=some false) (hs:szT Y t=some 1)
  (hlt:n<l.length) (hz:enc (l.getD n z0)=[p]):Body P Y nb s ⟨dst,.load t x,ty,pos,af,gd⟩ (.pv p) [] [h]:=by
 refine .inr (Zp.of fun σ G a w hv hl I=>?_)
 have hX:=hv x (by simp[Op.operands])
 rw[hx] at hX
 have hlk:qx σ.ms h=some (.arr v sz T (l.map enc)):=by rw[hl h (.inl (by simp))];exact hm
 have hq:ZZ Y t (qx σ.ms) (.eref h v n 0)=some (true,.pv p):=by
  have hg:(l.map enc).getD n []=[p]:=by
   rw[<-hz,ze,qf,ze,zm hlt];rfl
  unfold ZZ
  simp only[ha,hs,hlk,qq,hg,qp,qr,zJ]
  simp[hlt]
 obtain⟨r,h1,h2⟩:=ZY (P:=P) I.ctxS.sees hq hX
 refine⟨r,w,G,.inl ?_,qL I.ctxS h2 (fun k hk=>by simp[DV.refs] at hk)⟩
 simp only[execOp,qu,h1,qt,qw]
theorem B.slA {α:Type} {enc:α->List PV} {l:List α} {h v sz n:Nat} {k:IntKind} {m:Int} {e T:TypeId} (hx:ev1 s x=.aref h v) (hm:qx s.ms h=some (.arr v sz T (l.map enc))) (hy:ev1 s y=lit (.int k m)) (und:Y.underlying t=some (.slice e)) (hs:szT Y e=some sz)
  (hn:m=(n:Int)) (hle:n<=l.length):Body P Y nb s ⟨dst,.slice t x none (some y) none,ty,pos,af,gd⟩ (.atrunc h v n) [] [h]:=by
 refine .inr (Zp.of fun σ G a w hv hl I=>?_)
 have hX:=hv x (by simp[Op.operands])
 have hY:=hv y (by simp[Op.operands])
 rw[hx] at hX;rw[hy] at hY
 have hlk:qx σ.ms h=some (.arr v sz T (l.map enc)):=by rw[hl h (.inl (by simp))];exact hm
 have hq:kL Y t (qx σ.ms) (.aref h v) none (some (lit (.int k m))) none=some (true,.atrunc h v n):=by
  show kn Y t (qx σ.ms) (.aref h v) none (some (lit (.int k m))) none=_
  unfold kn lit
  subst hn
  have:decide ((0:Int)<=(n:Int)/\(n:Int)<=((l.map enc).length:Int))=true:=zl ⟨by omega,by rw[zJ];omega⟩
  simp only[und,bound,hs,hlk,qq,this,zU]
 obtain⟨r,h1,h2⟩:=sliceW_sound (P:=P) I.ctxS.sees hq hX (vlo:=none) (vhi:=some (a.eval y)) (vmx:=none) trivial hY trivial
 refine⟨r,w,G,.inl ?_,qL I.ctxS h2 (fun k hk=>?_)⟩
 ·simp only[execOp,Option.map_none,qg,qu,h1,qt,qw]
 simp only[DV.refs,zg] at hk;subst hk;exact⟨_,hlk⟩
end
theorem wk_trunc {nb:Nat} {s:St} {t h v k sz:Nat} {T0:TypeId} {es:List (List PV)} (ht:jC s.tm t=.atrunc h v k) (hm:qx s.ms h=some (.arr v sz T0 es)):Wk nb s ⟨(t,.aref h (v+1))::s.tm,(h,.arr (v+1) sz T0 (es.take k))::s.ms⟩:=by
 intro G a w I
 have hv0:qz G (G.rd w) (.atrunc h v k) (a.tmps.getD t undef):=by
  have:=I.ts t
  have e:s.vw.get t=.atrunc h v k:=ht
  rw[e] at this;exact this
 have ht2:truncU (qx s.ms) (.atrunc h v k)=some (.aref h (v+1),h,.arr (v+1) sz T0 (es.take k)):=by simp only[truncU,hm,qq]
 obtain⟨G1,S1⟩:=trunc_stepped I.mem hv0 ht2
 obtain⟨I1,Sn1⟩:=I.eff (K:=nb) S1 none (by simp)
 have I2:Inv G1 (St.vw ⟨s.tm,(h,.arr (v+1) sz T0 (es.take k))::s.ms⟩) a w:=I1
 refine⟨G1,?_,Sn1⟩
 have hts:t<a.tmps.size:=by
  rcases Nat.lt_or_ge t a.tmps.size with h|h
  ·exact h
  exact absurd (ht.symm.trans (I.size t h)) (by simp)
 refine⟨fun u=>?_,fun u hu=>?_,I2.ms,I2.fresh,I2.own,fun u k hk=>?_,I2.refsM,I2.r0,I2.r0m,I2.baseLe,I2.laid⟩
 ·show qz _ _ (jC ((t,.aref h (v+1))::s.tm) u) _
  rw[jo]
  split
  ·rename_i e;subst e;exact S1.hval
  exact I2.ts u
 ·show jC ((t,.aref h (v+1))::s.tm) u=.dead
  rw[jo,if_neg (by omega)]
  exact I2.size u hu
 have hk':k∈(jC ((t,.aref h (v+1))::s.tm) u).refs:=hk
 rw[jo] at hk'
 split at hk'
 ·simp only[DV.refs,zg] at hk'
  subst hk'
  exact⟨_,by show qx ((k,_)::s.ms) k=_;rw[qM,if_pos rfl]⟩
 exact I2.refsT u k hk'
section
variable {P:Program} {Y:Tab} {n nb:Nat} {Q:Exit->St->Prop} {K:List Fr} {c:Code} {s:St}
theorem TK.trunc [Fc] {t h v k sz:Nat} {T0:TypeId} {α:Type} {enc:α->List PV} {l:List α} (ht:jC s.tm t=.atrunc h v k) (hm:qx s.ms h=some (.arr v sz T0 (l.map enc))) (q:TK P n nb Q c K ⟨(t,.aref h (v+1))::s.tm,(h,.arr (v+1) sz T0 ((l.take k).map enc))::s.ms⟩):TK P n nb Q c K s:=by
 refine T.weak (wk_trunc ht hm) ?_
 rw[<-List.map_take]
 exact q
end
theorem relDVs_adopt {G1 G2:Gh} {R:Rd} {h:Nat} (hq:∀ v,qz G1 R .nils v->qz G2 R (.aref h 0) v):∀ {ps:List PV} {vs:List Value},qD G1 R (ps.map .pv++[.nils]) vs->qD G2 R (ps.map .pv++[.aref h 0]) vs
 | [],vs,H=>by
  simp only[zZ,zW,qD] at H ⊢
  obtain⟨v,vs',rfl,k1,k2⟩:=H
  exact⟨v,vs',rfl,hq v k1,k2⟩
 | p::ps,vs,H=>by
  simp only[zw,zQ,qD] at H ⊢
  obtain⟨v,vs',rfl,k1,k2⟩:=H
  exact⟨v,vs',rfl,by simpa only[qz] using k1,relDVs_adopt hq k2⟩
theorem Frz.aggNil {l:List (Nat×MO)} {h sz:Nat} {T:TypeId} (ps:List PV) (hl:qx l h=none):Frz l (.agg (ps.map .pv++[.nils])) [] (.agg (ps.map .pv++[.aref h 0])) [(h,.arr 0 sz T [])]:=by
 intro G w G1 w1 r M S
 have hv:=S.hval
 simp only[qz] at hv
 obtain⟨vs,rfl,ho,hvs⟩:=hv
 refine⟨G1.turn h ⟨none,0,0,sz,0,0,true⟩,⟨⟨S.later.base,S.later.R0,S.later.R0c,S.later.R0m,S.later.os,S.later.tape,S.later.output,S.later.size,S.later.cold⟩,?_,?_,?_,?_,S.fresh,?_,?_,?_,S.newb,S.r0,S.r0m⟩⟩
 ·simp only[qz]
  refine⟨vs,rfl,ho,relDVs_adopt (G1:=G1) (fun v hv=>?_) hvs⟩
  simp only[qz] at hv
  simp only[qz,Gh.turn,qq]
  exact⟨zz _,fun _=>hv⟩
 ·intro k o hk
  simp only[zg,zu] at hk
  obtain⟨rfl,rfl⟩:=hk
  simp only[jc,Gh.turn,qq]
  exact⟨trivial,trivial,trivial,rfl,zz _,(by simp),.inl ⟨trivial,trivial⟩⟩
 ·intro k o hk
  have hne:k≠h:=by rintro rfl;rw[hl] at hk;cases hk
  have:=S.keeps k o hk
  unfold Gh.keeps at this ⊢
  simp only[Gh.turn,hne,qr];exact this
 ·intro k hk
  simp only[zw,zZ,zg] at hk
  have:=S.old k (by simp)
  simp only[Gh.turn,hk,qr];exact this
 ·intro b k hk
  rcases S.own b k hk with e|e
  ·simp at e
  exact .inr e
 ·intro k hk
  have:∀ (ps:List PV),DV.qT (ps.map .pv++[.aref h 0])=[h]:=by
   intro ps
   induction ps with
   | nil=>rfl
   | cons p ps ih=>simp only[zw,zQ,DV.qT,DV.refs,zW];exact ih
  simp only[DV.refs,this,zg] at hk
  exact .inl (by simp[hk])
 intro k o hk k2 hh
 simp only[zg,zu] at hk
 obtain⟨rfl,rfl⟩:=hk
 simp[MO.refs] at hh
theorem eqv_i {k:IntKind} {a b:Int}:eqV (.int k) (.lit (.int .i64 a)) (.lit (.int .i64 b))=some (decide (a=b)):=by
 have:(a==b)=decide (a=b):=rfl
 simp[eqV,this]
theorem eqv_s {a b:List UInt8}:eqV .string (.lit (.string (bsO a))) (.lit (.string (bsO b)))=some (decide (a=b)):=by
 have:decide (a=b)=((bsO a).toList==(bsO b).toList):=by rw[zM];simp[toList_inj,bsO_inj]
 rw[this];rfl
theorem eqv_b {p q:Bool}:eqV .bool (.lit (.bool p)) (.lit (.bool q))=some (p==q):=rfl
theorem Zj {d:TypeDesc} {ds:List TypeDesc} {x y:PV} {xs ys:List PV} {a b:Bool} (h1:eqV d x y=some a) (h2:eqVs ds xs ys=some b):eqVs (d::ds) (x::xs) (y::ys)=some (a&&b):=by simp only[eqVs,h1,h2]
theorem eqv_last {d:TypeDesc} {x y:PV} {a:Bool} (h1:eqV d x y=some a):eqVs [d] [x] [y]=some a:=by simp only[eqVs,h1,Bool.and_true]
section
variable {P:Program} {Y:Tab} [qU P Y] {nb:Nat} {s:St} {dst:Option Tmp} {ty u:TypeId} {pos:String} {af:Array Edge} {gd:Option (Nat×Bool)} {t:TypeId} {x y:Operand}
theorem B.stqN {ds:List TypeDesc} {xs ys:List PV} {r:Bool} (hx:ev1 s x=.pv (.agg xs)) (hy:ev1 s y=.pv (.agg ys)) (hf:flatEq Y t=some ds) (he:eqVs ds xs ys=some r):Body P Y nb s ⟨dst,.binOp .neq t x y u,ty,pos,af,gd⟩ (lit (.bool (!r))) [] []:=by
 refine B.bin hx hy ?_
 have h2:binQ Y .neq t (.pv (.agg xs)) (.pv (.agg ys))=some (true,lit (.bool (!r))):=by
  simp only[binQ,hf,he]
 show qE (binW Y .neq t (qx []) (ZC y) _ _)=_
 have h3:binW Y .neq t (qx []) (ZC y) (.pv (.agg xs)) (.pv (.agg ys))=some (true,lit (.bool (!r))):=by
  unfold binW
  simp only[nilQ,nilKind,samePQ,h2]
 rw[h3];rfl
end
section
variable {P:Program} {n nb:Nat} {Q:Exit->St->Prop} {c:Code} {s:St}
theorem pk_goto [Fc] (hq:∀ l s,¬Q (.goto l) s):∀ {K:List Fr} {l:Nat} {s:St},¬PK P n nb Q K (.goto l) s
 | [],l,s,h=>hq l s h
 | .seq y::K,l,s,h=>pk_goto hq (K:=K) h
 | .blk id::K,l,s,h=>pk_goto hq (K:=K) h
 | .lp C::K,l,s,h=>pk_goto hq (K:=K) h
theorem TK.scope {K:List Fr} (hq:∀ l s,¬Q (.goto l) s) (h:TK P n nb Q c K s):TK P n nb Q (.scope c) K s:=by
 intro G a w R I hn hK
 refine wpIn_wide.2 (wp_scope_straight (wpIn_wide.1 (h G a w _ I hn ?_)))
 intro e s' G1 a1 w1 q I1 Sn1 hn1 hd1
 have:=hK e s' G1 a1 w1 q I1 Sn1 hn1 hd1
 cases e with
 | goto l=>exact absurd q (pk_goto hq)
 | _=>exact this
theorem TK.label [Fc] {K:List Fr} {l:Nat} (h:PK P n nb Q K .normal s):TK P n nb Q (.label l) K s:=by
 intro G a w R I hn hK
 exact wpIn_label (hK _ s G a w h I (Since.refl _ _ _ _) hn (Mks.of Z))
end
theorem wk_boxpv {nb:Nat} {s:St} {h:Nat} {T0:TypeId} {ds:List DV} {cs:List PV} (hm:qx s.ms h=some (.box T0 ds)) (hp:pvOfL (qx s.ms) ds=some cs):Wk nb s ⟨s.tm,(h,.box T0 (cs.map .pv))::s.ms⟩:=by
 intro G a w I
 have M:=I.mem
 have hb:=M.ms _ _ hm
 have S1:Stepped G w (qx s.ms) .dead [(h,.box T0 (cs.map .pv))] G w undef:=by
  refine⟨Later.refl _ _,by simp only[qz],?_,fun _ _ _=>.inl rfl,fun _ _=>⟨rfl,fun _ hb=>⟨hb,rfl⟩⟩,M.fresh,fun _ _ hb=>.inr hb,fun h hh=>by simp[DV.refs] at hh,?_,fun _ _ hb=>.inl hb,fun _ _ _ _ h=>.inl h,fun _ _ _ h=>.inl h⟩
  ·intro k o hk
   simp only[zg,zu] at hk
   obtain⟨rfl,rfl⟩:=hk
   simp only[jc] at hb ⊢
   obtain⟨e1,b,c,e2,e3,e4,e5,e6⟩:=hb
   exact⟨e1,b,c,e2,e3,e4,e5,relDVs_pv (Zg M.ms hp e6)⟩
  intro k o hk h' hh
  simp only[zg,zu] at hk
  obtain⟨rfl,rfl⟩:=hk
  simp only[MO.refs,refsL_pv] at hh
  cases hh
 obtain⟨I1,Sn1⟩:=I.eff (K:=nb) S1 none (by simp)
 exact⟨G,I1,Sn1⟩
theorem wk_frz0 {nb:Nat} {s:St} {h:Nat} {o:MO} (hf:ky (qx s.ms) h=some o):Wk nb s ⟨s.tm,(h,o)::s.ms⟩:=by
 intro G a w I
 obtain⟨G1,S1⟩:=frz_stepped I.mem hf
 obtain⟨I1,Sn1⟩:=I.eff (K:=nb) S1 none (by simp)
 exact⟨G1,I1,Sn1⟩
theorem TK.frzC [Fc] {P:Program} {n nb:Nat} {Q:Exit->St->Prop} {K:List Fr} {c:Code} {s:St} {h h2 v sz:Nat} {T0 T1:TypeId} {ds:List DV} {cs:List PV} {es:List (List PV)} (hm2:qx s.ms h2=some (.arr v sz T1 es)) (hm:qx ((h2,.farr v es)::s.ms) h=some (.box T0 ds))
  (hp:pvOfL (qx ((h2,.farr v es)::s.ms)) ds=some cs) (k:TK P n nb Q c K ⟨s.tm,(h,.box T0 (cs.map .pv))::(h2,.farr v es)::s.ms⟩):TK P n nb Q c K s:=
 T.weak (wk_frz0 (by unfold ky;rw[hm2])) (T.weak (wk_boxpv hm hp) k)
end Go.Lens
end
section
namespace Go.Lens.Tm
open Go.Lens.Tb Go.Proofs
theorem eqf {b:Bool} (h:(b==false)=true):b=false:=by cases b<;>simp_all
theorem eqt {b:Bool} (h:(b==true)=true):b=true:=by cases b<;>simp_all
theorem lenP_nil:kH []=0:=rfl
theorem words_zero {o:List UInt8} (h:jW o=0):o≠jV/\o≠Z7/\o≠ZA/\o≠kEnd:=by
 unfold jW at h
 refine⟨fun e=>?_,fun e=>?_,fun e=>?_,fun e=>?_⟩<;>(rw[e] at h;exact absurd h (by decide))
theorem words_some {o:List UInt8} (h:jW o≠0):o=jV\/o=Z7\/o=ZA\/o=kEnd:=by
 unfold jW at h
 by_cases h1:o=jV
 ·exact .inl h1
 by_cases h2:o=Z7
 ·exact .inr (.inl h2)
 by_cases h3:o=ZA
 ·exact .inr (.inr (.inl h3))
 by_cases h4:o=kEnd
 ·exact .inr (.inr (.inr h4))
 rw[if_neg h1,if_neg h2,if_neg h3,if_neg h4] at h;exact absurd Z h
theorem chk_kind {c:Cmd} (h:jW c.1=0):jI c=13:=by
 obtain⟨h1,h2,h3,h4⟩:=words_zero h
 unfold jI
 rw[if_neg h1,if_neg h4,if_neg h2,if_neg h3]
theorem kF {b:Bool} {e x:Int} (he:e≠0):qP [qF b e,x]=bif b then e else qP [x]:=by
 cases b
 ·rfl
 simp[qF,qP,he]
theorem ZV (x:Int):qP [x]=x:=by
 by_cases h:x=0<;>simp[qP,h]
theorem chk_name {c:Cmd} (h:(bif (decide (c.1=[97,99,116])) then (!(qV (bsO c.2.1))) else false)=true):jI c=8:=by
 rw[jw,zj] at h
 unfold jI
 rw[if_pos (of_decide_eq_true h.1),kF (by decide),h.2];rfl
theorem chk_form {c:Cmd} (h0:jW c.1≠0) (h:(bif (decide (c.1≠[97,99,116])) then (decide (c.2.1≠[])) else false)=true):jI c=1:=by
 rw[jw,zj] at h
 have h1:c.1≠jV:=of_decide_eq_true h.1
 unfold jI
 rw[if_neg h1]
 rcases words_some h0 with e|e|e|e
 ·exact absurd e h1
 ·rw[e,if_neg (by decide),if_pos Z,kF (by decide),h.2];rfl
 ·rw[e,if_neg (by decide),if_neg (by decide),if_pos Z,kF (by decide),h.2];rfl
 rw[e,if_pos rfl,kF (by decide),h.2];rfl
theorem chk_rest {c:Cmd} (h0:jW c.1≠0) (h1:(bif (decide (c.1=[97,99,116])) then (!(qV (bsO c.2.1))) else false)=false) (h2:(bif (decide (c.1≠[97,99,116])) then (decide (c.2.1≠[])) else false)=false) :
  jI c=if c.1=Z7 then qG c.2.2 1 100000 else if c.1=ZA then qG c.2.2 1 100 else qG c.2.2 0 0:=by
 unfold jI
 rcases words_some h0 with e|e|e|e
 ·rw[e] at h1 ⊢
  rw[zl rfl,cond_true] at h1
  rw[if_pos rfl,if_neg (by decide),if_neg (by decide),kF (by decide),h1]
  exact ZV _
 ·rw[e] at h2 ⊢
  rw[zl (by decide),cond_true] at h2
  rw[if_neg (by decide),if_neg (by decide),if_pos Z,kF (by decide),h2]
  exact ZV _
 ·rw[e] at h2 ⊢
  rw[zl (by decide),cond_true] at h2
  rw[if_neg (by decide),if_neg (by decide),if_neg (by decide),if_pos Z,if_neg (by decide),if_pos Z,kF (by decide),h2]
  exact ZV _
 rw[e] at h2 ⊢
 rw[zl (by decide),cond_true] at h2
 rw[if_neg (by decide),if_pos Z,if_neg (by decide),if_neg (by decide),kF (by decide),h2]
 exact ZV _
theorem with_out {n a b:Int} (h:Zw n a b=true):qG n a b=3:=by unfold qG qF;rw[h];rfl
theorem with_in {n a b:Int} (h:Zw n a b=false):qG n a b=0:=by unfold qG qF;rw[h];rfl
theorem chkS_many {l:List Cmd} (h:64<((l.length:Nat):Int)):chkS l=5:=by unfold chkS;exact if_pos (by omega)
theorem chkS_bad {l:List Cmd} {e:Int} (h:¬64<((l.length:Nat):Int)) (hb:badC l=e) (he:e≠0):chkS l=e:=by
 unfold chkS
 rw[if_neg (by omega),if_pos (by rw[hb];exact he),hb]
theorem chkS_dep {l:List Cmd} {e:Int} (h:¬64<((l.length:Nat):Int)) (hb:badC l=0) (hd:depC 0 l=e) (he:e≠0):chkS l=e:=by
 unfold chkS
 rw[if_neg (by omega),if_neg (by rw[hb];simp),if_pos (by rw[hd];exact he),hd]
theorem chkS_len {l:List Cmd} (h:¬64<((l.length:Nat):Int)) (hb:badC l=0) (hd:depC 0 l=0):chkS l=qF (decide (10000<kH l)) 22:=by
 unfold chkS
 rw[if_neg (by omega),if_neg (by rw[hb];simp),if_neg (by rw[hd];simp)]
theorem chkS_ok {l:List Cmd} (h:chkS l=0):l.length<=64/\(∀ c∈l,jI c=0)/\depC 0 l=0/\kH l<=10000:=by
 unfold chkS at h
 split at h
 ·cases h
 split at h
 ·rename_i h2;exact absurd h h2
 split at h
 ·rename_i h3;exact absurd h h3
 rename_i h1 h2 h3
 refine⟨by omega,badC_all (zi.1 h2),zi.1 h3,?_⟩
 unfold qF at h
 cases hq:decide (10000<kH l) with
 | true=>rw[hq] at h;cases h
 | false=>have:=of_decide_eq_false hq;omega
theorem bad_end {l:List Cmd} {k:Nat} (h:¬k<l.length):badC (l.drop k)=0:=by rw[zN (by omega)];rfl
theorem dep_nil {l:List Cmd} {k d:Nat} (h:¬k<l.length):depC d (l.drop k)=if 0<d then 2 else 0:=by rw[zN (by omega)];rfl
def LnI (l:List Cmd) (k:Nat) (s:Int) (st:List (Int×Int)):Prop:=(kX s st (l.drop k)=kH l/\depC st.length (l.drop k)=0/\st.length<=k)/\0<=s/\∀ p∈st,0<=p.1/\1<=p.2
theorem ln_init {l:List Cmd} (h:depC 0 l=0):LnI l 0 0 []:=⟨⟨rfl,h,zz _⟩,Int.le_refl _,fun p hp=>by cases hp⟩
section
variable {l:List Cmd} {k:Nat} {s:Int} {st:List (Int×Int)}
theorem ln_le (h:LnI l k s st) (hc:∀ c∈l,jI c=0):s<=kH l/\∀ p∈st,p.1<=kH l:=by
 obtain⟨⟨h1,h2,_⟩,h3,h4⟩:=h
 rw[<-h1]
 exact len_ge h2 (fun c hx=>hc c (zt hx)) h3 h4
theorem ln_rep (h:LnI l k s st) (hc:∀ c∈l,jI c=0) (hk:k<l.length) (h0:(l.getD k z3).1=ZA):LnI l (k+1) 1 ((s,(l.getD k z3).2.2)::st):=by
 obtain⟨⟨h1,h2,h5⟩,h3,h4⟩:=h
 rw[dep_rep hk h0] at h2
 have hr:=cnt_rep (hc _ (getD_mem (z:=z3) hk)) h0
 split at h2
 ·cases h2
 refine⟨⟨(len_rep hk h0).symm.trans h1,h2,by simp only[zb];omega⟩,by decide,fun p hp=>?_⟩
 rcases zF.1 hp with rfl|hp
 ·exact⟨h3,hr.1⟩
 exact h4 p hp
theorem ln_some (h:LnI l k s st) (hk:k<l.length) (h0:(l.getD k z3).1=kEnd):∃ p st2,st=p::st2:=by
 obtain⟨⟨_,h2,_⟩,_,_⟩:=h
 rw[dep_end hk h0] at h2
 cases st with
 | nil=>cases h2
 | cons p st=>exact⟨p,st,rfl⟩
theorem ln_pop {p:Int×Int} (h:LnI l k s (p::st)) (hk:k<l.length) (h0:(l.getD k z3).1=kEnd):LnI l (k+1) (p.1+p.2*s) st:=by
 obtain⟨⟨h1,h2,h5⟩,h3,h4⟩:=h
 rw[dep_end hk h0] at h2
 have hp:=h4 p (qm ..)
 refine⟨⟨(len_end hk h0).symm.trans h1,?_,by simp only[zb] at h5;omega⟩,?_,fun q hq=>h4 q (zO _ hq)⟩
 ·simpa using h2
 have:=Int.mul_nonneg (show 0<=p.2 by omega) h3
 omega
theorem ln_one (h:LnI l k s st) (hk:k<l.length) (h0:(l.getD k z3).1≠ZA) (h6:(l.getD k z3).1≠kEnd):LnI l (k+1) (s+1) st:=by
 obtain⟨⟨h1,h2,h5⟩,h3,h4⟩:=h
 rw[dep_one hk h0 h6] at h2
 exact⟨⟨(len_one hk h0 h6).symm.trans h1,h2,by omega⟩,by omega,h4⟩
theorem ln_end (h:LnI l k s st) (hk:¬k<l.length):(smL st s).getD 0 0=kH l:=by
 obtain⟨⟨h1,h2,_⟩,_,_⟩:=h
 rw[dep_nil hk] at h2
 have:st=[]:=by
  split at h2
  ·cases h2
  exact zL (by omega)
 subst this
 rw[zN (by omega)] at h1
 exact h1
end
def unrGo:List Cmd->List (List Cmd×Nat)->List Cmd->List Cmd
 | a,_,[]=>a
 | a,st,c::l=>if c.1=ZA then unrGo [] ((a,c.2.2.toNat)::st) l else if c.1=kEnd then (match st with
   | []=>a
   | p::st=>unrGo (p.1++(List.replicate p.2 a).flatten) st l) else unrGo (a++[c]) st l
theorem Zd (a:List Cmd) (st:List (List Cmd×Nat)) (c:Cmd) (l:List Cmd):unrGo a st (c::l)=if c.1=ZA then unrGo [] ((a,c.2.2.toNat)::st) l else if c.1=kEnd then (match st with
   | []=>a
   | p::st=>unrGo (p.1++(List.replicate p.2 a).flatten) st l) else unrGo (a++[c]) st l:=by cases st<;>rfl
def q9 (l:List Cmd):List Cmd:=unrGo [] [] l
def tms (n:Nat) (a:List Cmd):List Cmd:=(List.replicate n a).flatten
theorem tms_zero (a:List Cmd):tms 0 a=[]:=rfl
theorem tms_succ (n:Nat) (a:List Cmd):tms (n+1) a=tms n a++a:=by
 unfold tms
 rw[List.replicate_succ',List.flatten_append];simp
theorem wf_unr {d:Nat} {l:List Cmd} (h:Wf d l):∀ (a:List Cmd) (st:List (List Cmd×Nat)) (r:List Cmd),unrGo a st (l++r)=unrGo (a++q9 l) st r:=by
 induction h with
 | nil d=>intro a st r;rw[zW];simp[q9,unrGo]
 | @one d c l h1 h2 h ih=>
  intro a st r
  have e:q9 (c::l)=[c]++q9 l:=by
   have:=ih [c] [] []
   rw[zS] at this
   rw[q9,Zd,if_neg h1,if_neg h2,zW,this];rfl
  rw[zQ,Zd,if_neg h1,if_neg h2,ih,e,z7]
 | @rep d c e b l h1 h2 hb hl ihb ihl=>
  have key:∀ (a:List Cmd) (st:List (List Cmd×Nat)) (r:List Cmd),unrGo a st ((c::(b++e::l))++r)=unrGo (a++(tms c.2.2.toNat (q9 b)++q9 l)) st r:=by
   intro a st r
   rw[zQ,Zd,if_pos h1,z7,ihb,zQ,Zd,if_neg (by rw[h2];exact Ne.symm kO),if_pos h2]
   show unrGo (a++tms c.2.2.toNat ([]++q9 b)) st (l++r)=_
   rw[zW,ihl,z7]
  have e0:q9 (c::(b++e::l))=tms c.2.2.toNat (q9 b)++q9 l:=by
   have:=key [] [] []
   rw[zS,zW] at this
   exact this
  intro a st r
  rw[key,e0]
theorem wf_one_unr {d:Nat} {c:Cmd} {l:List Cmd} (h1:c.1≠ZA) (h2:c.1≠kEnd) (h:Wf d l):q9 (c::l)=c::q9 l:=by
 have:=wf_unr h [c] [] []
 rw[zS] at this
 rw[q9,Zd,if_neg h1,if_neg h2,zW,this];rfl
theorem wf_rep_unr {d:Nat} {c e:Cmd} {b l:List Cmd} (h1:c.1=ZA) (h2:e.1=kEnd) (hb:Wf d b) (hl:Wf (d+1) l):q9 (c::(b++e::l))=tms c.2.2.toNat (q9 b)++q9 l:=by
 have h3:=wf_unr hl (tms c.2.2.toNat (q9 b)) [] []
 rw[zS] at h3
 rw[q9,Zd,if_pos h1,wf_unr hb,Zd,if_neg (by rw[h2];exact Ne.symm kO),if_pos h2]
 show unrGo ([]++tms c.2.2.toNat ([]++q9 b)) [] l=_
 rw[zW,zW,h3];rfl
theorem unrP_nil:q9 []=[]:=rfl
theorem tms_len (n:Nat) (a:List Cmd):(tms n a).length=n*a.length:=by
 induction n with
 | zero=>simp[tms]
 | succ n ih=>rw[tms_succ,za,ih,Nat.add_mul];omega
theorem tms_mem {n:Nat} {a:List Cmd} {c:Cmd} (h:c∈tms n a):c∈a:=by
 unfold tms at h
 obtain⟨l,hl,hc⟩:=List.mem_flatten.1 h
 rw[(List.mem_replicate.1 hl).2] at hc
 exact hc
theorem wf_unr_len {d:Nat} {l:List Cmd} (h:Wf d l) (hc:∀ c∈l,jI c=0):((q9 l).length:Int)<=kH l/\∀ c∈q9 l,c∈l/\c.1≠ZA/\c.1≠kEnd:=by
 induction h with
 | nil d=>exact⟨by simp[unrP_nil,lenP_nil],fun c h=>by cases h⟩
 | @one d c l h1 h2 h ih=>
  have:=ih fun x hx=>hc x (zO _ hx)
  rw[wf_one_len h1 h2 h,wf_one_unr h1 h2 h]
  refine⟨by simp only[zb];omega,fun x hx=>?_⟩
  rcases zF.1 hx with rfl|hx
  ·exact⟨qm ..,h1,h2⟩
  have k:=this.2 x hx;exact⟨zO _ k.1,k.2⟩
 | @rep d c e b l h1 h2 hb hl ihb ihl=>
  have kb:=ihb fun x hx=>hc x (by simp[hx])
  have kl:=ihl fun x hx=>hc x (by simp[hx])
  have hr:=cnt_rep (hc c (qm ..)) h1
  rw[wf_rep_len h1 h2 hb hl,wf_rep_unr h1 h2 hb hl]
  refine⟨?_,fun x hx=>?_⟩
  ·rw[za,tms_len]
   have h3:c.2.2*((q9 b).length:Int)<=c.2.2*(1+kH b):=Int.mul_le_mul_of_nonneg_left (by omega) (by omega)
   have h4:((c.2.2.toNat*(q9 b).length:Nat):Int)=c.2.2*((q9 b).length:Int):=by
    rw[Int.natCast_mul,Int.toNat_of_nonneg (by omega)]
   omega
  rcases zI.1 hx with hx|hx
  ·have k:=kb.2 x (tms_mem hx);exact⟨by simp[k.1],k.2⟩
  have k:=kl.2 x hx;exact⟨by simp[k.1],k.2⟩
theorem wf_at_unr {d:Nat} {l:List Cmd} {i:Nat} (hw:Wf d (l.drop i)) (hi:i<l.length) (h0:(l.getD i z3).1=ZA) :
  q9 (l.drop i)=tms (l.getD i z3).2.2.toNat (q9 ((l.take (j3 0 i (l.drop i))).drop (i+1)))++q9 (l.drop (j3 0 i (l.drop i)+1)):=by
 have hd:=dropC hi
 generalize hq:l.drop i=q at hw hd
 cases hw with
 | nil d=>cases hd
 | one h1 h2 h=>cases hd;exact absurd h0 h1
 | @rep d' c e b r h1 h2 hb hr=>
  injection hd with k1 k2
  have hm:j3 0 i (c::(b++e::r))=i+1+b.length:=by
   rw[j3,if_pos h1,wf_mat hb _ _ _ (by omega),j3,if_neg (by rw[h2];exact Ne.symm kO),if_pos h2,if_pos (by omega)]
  have htb:(l.take (i+1+b.length)).drop (i+1)=b:=by
   rw[List.drop_take,<-k2,show i+1+b.length-(i+1)=b.length by omega,List.take_left]
  have hdr:l.drop (i+1+b.length+1)=r:=by
   rw[show i+1+b.length+1=(i+1)+(b.length+1) by omega,<-List.drop_drop,<-k2,<-List.drop_drop,List.drop_left];rfl
  rw[hm,htb,hdr,<-k1]
  exact wf_rep_unr h1 h2 hb hr
theorem wf_next_unr {d:Nat} {l:List Cmd} {i:Nat} (hw:Wf d (l.drop i)) (hi:i<l.length) (h0:(l.getD i z3).1≠ZA):q9 (l.drop i)=l.getD i z3::q9 (l.drop (i+1)):=by
 have hd:=dropC hi
 generalize hq:l.drop i=q at hw hd
 cases hw with
 | nil d=>cases hd
 | one h1 h2 h=>
  injection hd with k1 k2
  rw[<-k1,<-k2]
  exact wf_one_unr h1 h2 h
 | rep h1 h2 hb hr=>injection hd with k1 k2;rw[k1] at h1;exact absurd h1 h0
abbrev LSt:=List UInt8×Int×Bool×Bool
abbrev gS (s:LSt):PV:=.agg [pS (bsO s.1),pI s.2.1,pB s.2.2.1,pB s.2.2.2]
abbrev bS (s:LSt):MO:=.box 81 [vS (bsO s.1),vI s.2.1,vB s.2.2.1,vB s.2.2.2]
abbrev ZT:List UInt8:=[105,100,108,101]
abbrev mOpen:List UInt8:=[111,112,101,110]
abbrev jg:List UInt8:=[99,108,111,115,101,100]
abbrev mSafe:List UInt8:=[115,97,102,101]
def stPV (s:LSt):List PV:=[.lit (.string (bsO s.1)),.lit (.int .i64 s.2.1),.lit (.bool s.2.2.1),.lit (.bool s.2.2.2)]
def knownB (m:List UInt8):Bool:=decide (m=ZT)||(decide (m=mOpen)||(decide (m=jg)||decide (m=mSafe)))
def wrongB (s:LSt):Bool:=((decide (0<s.2.1)&&decide (s.1≠jg))||(s.2.2.1&&decide (s.1=jg)))||(s.2.2.2&&(decide (s.1=mOpen)||decide (s.1=jg)))
def chkSt (s:LSt):Int:=qP [qF (!knownB s.1) 13,qG s.2.1 0 2,qF (wrongB s) 18]
abbrev aStart:List UInt8:=[115,116,97,114,116]
abbrev aClose:List UInt8:=[99,108,111,115,101]
abbrev aOpen:List UInt8:=[111,112,101,110]
abbrev aStop:List UInt8:=[115,116,111,112]
abbrev aSat:List UInt8:=[115,97,116,117,114,97,116,101]
abbrev aClear:List UInt8:=[99,108,101,97,114]
abbrev aLose:List UInt8:=[108,111,115,101]
abbrev aFind:List UInt8:=[102,105,110,100]
abbrev aGust:List UInt8:=[103,117,115,116]
abbrev aCalm:List UInt8:=[99,97,108,109]
abbrev aReset:List UInt8:=[114,101,115,101,116]
def ju:List (List UInt8):=[aStart,aClose,aOpen,aStop,aSat,aClear,aLose,aFind,aGust,aCalm,aReset]
def toM (s:LSt) (m:List UInt8):LSt:=(m,if s.1=m then s.2.1 else 0,s.2.2.1,s.2.2.2)
def permA (s:LSt) (a:List UInt8):Bool:=
 if a=aStart then decide (s.1=ZT)&&!s.2.2.2
 else if a=aClose then decide (s.1=mOpen)&&!s.2.2.1
 else if a=aOpen then decide (s.1=jg)
 else if a=aStop then decide (s.1=mOpen)||decide (s.1=jg)
 else if a=aSat then decide (s.1=jg)
 else if a=aClear then decide (s.1=jg)
 else if a=aLose then !s.2.2.1
 else if a=aFind then s.2.2.1
 else if a=aGust then !s.2.2.2
 else if a=aCalm then s.2.2.2
 else decide (s.1=mSafe)&&!s.2.2.2
def effA (s:LSt) (a:List UInt8):LSt:=
 if a=aStart then toM s mOpen
 else if a=aClose then toM s jg
 else if a=aOpen then toM s mOpen
 else if a=aStop then toM s ZT
 else if a=aSat then (if s.2.1+1=3 then toM s mSafe else (s.1,s.2.1+1,s.2.2.1,s.2.2.2))
 else if a=aClear then (s.1,0,s.2.2.1,s.2.2.2)
 else if a=aLose then (if s.1=jg then toM (s.1,s.2.1,true,s.2.2.2) mSafe else (s.1,s.2.1,true,s.2.2.2))
 else if a=aFind then (s.1,s.2.1,false,s.2.2.2)
 else if a=aGust then (if s.1=mOpen\/s.1=jg then toM (s.1,s.2.1,s.2.2.1,true) mSafe else (s.1,s.2.1,s.2.2.1,true))
 else if a=aCalm then (s.1,s.2.1,s.2.2.1,false)
 else toM s ZT
def zSt:LSt:=([],0,false,false)
def Zu (s:LSt) (a:List UInt8):LSt×Int:=if a∈ju then (if permA s a then (effA s a,0) else (zSt,18)) else (zSt,13)
def sts:List LSt:=
 [(ZT,0,false,false),(ZT,0,false,true),(ZT,0,true,false),(ZT,0,true,true),(mOpen,0,false,false),(mOpen,0,true,false),(jg,0,false,false),(jg,1,false,false),(jg,2,false,false),
  (mSafe,0,false,false),(mSafe,0,false,true),(mSafe,0,true,false),(mSafe,0,true,true)]
theorem when_zero {b:Bool} {e:Int} (he:e≠0) (h:qF b e=0):b=false:=by
 cases b
 ·rfl
 exact absurd h he
theorem st_chk:∀ s∈sts,chkSt s=0:=by decide
theorem act_stays:∀ s∈sts,∀ a∈ju,(Zu s a).2=0->(Zu s a).1∈sts:=by decide
theorem act_valid {s:LSt} {a:List UInt8} (hs:s∈sts) (h:(Zu s a).2=0):(Zu s a).1∈sts:=by
 by_cases ha:a∈ju
 ·exact act_stays s hs a ha h
 rw[Zu,if_neg ha] at h;cases h
abbrev Stp:=Int×List UInt8
def eP (p:Stp):List PV:=[.lit (.int .i64 (Prod.fst p)),.lit (.string (bsO (Prod.snd p)))]
abbrev Mc:=LSt×Int×List Stp
abbrev aM (m:Mc):MO:=.arr m.2.2.length 2 164 (List.map eP m.2.2)
end Go.Lens.Tm
end
section
namespace Go.Lens
variable [Lz]
theorem wrap_u8 {n:Int} (h0:0<=n) (h1:n<256):IntKind.wrap .u8 n=n:=by
 have e:n%(2 ^ 8:Int)=n:=Int.emod_eq_of_lt h0 (by omega)
 have hb:IntKind.u8.bits=8:=rfl
 have hs:IntKind.u8.signed=false:=rfl
 unfold IntKind.wrap
 simp only[hb,hs,e,Bool.false_and,qp,qr]
section
variable {P:Program} {Y:Tab} [qU P Y] {nb:Nat} {s:St} {dst:Option Tmp} {ty u:TypeId} {pos:String} {af:Array Edge} {gd:Option (Nat×Bool)} {t:TypeId} {x y:Operand}
theorem B.subB {a b:Int} (hx:ev1 s x=lit (.int .u8 a)) (hy:ev1 s y=lit (.int .u8 b)) (h:0<=a-b/\a-b<256):Body P Y nb s ⟨dst,.binOp .sub t x y u,ty,pos,af,gd⟩ (lit (.int .u8 (a-b))) [] []:=by
 refine B.bin hx hy ?_
 show qE (some (true,lit (.int .u8 (IntKind.wrap .u8 (a-b)))))=_
 rw[wrap_u8 h.1 h.2];rfl
theorem B.ieqN {T:TypeId} {p:PV} {ms:Array (String×TypeId)} (hx:ev1 s x=.pv (.iface T p)) (und:Y.underlying t=some (.interface ms)):Body P Y nb s ⟨dst,.binOp .eql t x (.const .nilIface) u,ty,pos,af,gd⟩ (lit (.bool false)) [] []:=by
 refine .inr (Zp.of fun σ G a w hv hl I=>?_)
 have hX:=hv x (by simp[Op.operands])
 rw[hx] at hX
 simp only[qz,qN] at hX
 obtain⟨v,e,_⟩:=hX
 have ht:P.underlying t=some (.interface ms):=qU.und P und
 refine⟨.bool false,w,G,.inl ?_,qL I.ctxS (qO Z) (fun k hk=>by simp[lit,DV.refs] at hk)⟩
 have h1:(binOp .eql t (.iface T v) .nilIface).run P w=.ok (.bool false) w:=by
  have h:∀ d:Nat,(Op.equalIn (d+2) t (.iface T v) .nilIface).run P w=.ok false w:=fun d=>by
   simp[Op.equalIn,run_underlying ht]
  simp only[binOp]
  simp[Op.equal,Op.maxDepth,h 9998]
 have hy:a.eval (.const .nilIface)=.nilIface:=rfl
 have hg:eqGuard .eql t x (.const .nilIface) (.iface T v) .nilIface=(Pure.pure ():Sem Unit):=by simp[eqGuard]
 simp only[execOp,e,hy,hg,qu,qw,qt,h1]
theorem B.ieqE {ms:Array (String×TypeId)} (hx:ev1 s x=lit .nilIface) (und:Y.underlying t=some (.interface ms)):Body P Y nb s ⟨dst,.binOp .eql t x (.const .nilIface) u,ty,pos,af,gd⟩ (lit (.bool true)) [] []:=by
 refine .inr (Zp.of fun σ G a w hv hl I=>?_)
 have hX:=hv x (by simp[Op.operands])
 rw[hx] at hX
 have e:=(qC hX).1
 have ht:P.underlying t=some (.interface ms):=qU.und P und
 refine⟨.bool true,w,G,.inl ?_,qL I.ctxS (qO Z) (fun k hk=>by simp[lit,DV.refs] at hk)⟩
 have h1:(binOp .eql t .nilIface .nilIface).run P w=.ok (.bool true) w:=by
  have h:∀ d:Nat,(Op.equalIn (d+2) t .nilIface .nilIface).run P w=.ok true w:=fun d=>by
   simp[Op.equalIn,run_underlying ht]
  simp only[binOp]
  simp[Op.equal,Op.maxDepth,h 9998]
 have hy:a.eval (.const .nilIface)=.nilIface:=rfl
 have hg:eqGuard .eql t x (.const .nilIface) .nilIface .nilIface=(Pure.pure ():Sem Unit):=by simp[eqGuard]
 simp only[execOp,e,hy,hg,qu,qw,qt,h1]
theorem B.lenA {α:Type} {enc:α->List PV} {l:List α} {h v sz:Nat} {at' e T:TypeId} (hx:ev1 s x=.aref h v) (hm:qx s.ms h=some (.arr v sz T (l.map enc))) (hu:Y.underlying at'=some (.slice e)):Body P Y nb s ⟨dst,.call ⟨.builtin .len,⟨[x]⟩,⟨[at']⟩⟩,ty,pos,af,gd⟩ (lit (.int .i64 (l.length:Int))) [] [h]:=by
 refine .inr (Zp.of fun σ G a w hv hl I=>?_)
 have hX:=hv x (by simp[Op.operands,Call.operands])
 rw[hx] at hX
 have hlk:qx σ.ms h=some (.arr v sz T (l.map enc)):=by rw[hl h (.inl (by simp))];exact hm
 have hq:lenQ Y at' (qx σ.ms) (.aref h v)=some (true,lit (.int .i64 (l.length:Int))):=by
  unfold lenQ
  rw[hu]
  simp[lenOf,hlk]
 obtain⟨r,h1,h2⟩:=lenQ_sound (P:=P) (ty:=ty) I.ctxS.sees hq hX
 refine⟨r,w,G,.inl ?_,qL I.ctxS h2 (fun k hk=>by simp[lit,DV.refs] at hk)⟩
 simp only[execOp,resolve,qu,qw,qt,invoke,builtin,List.map_toArray,zw,zZ]
 rw[h1];rfl
theorem B.slTD {α:Type} {enc:α->List PV} {l:List α} {lo hi:Operand} {k k2:IntKind} {n m:Int} {i j:Nat} {e:TypeId} {sz:Nat} (hx:ev1 s x=.pv (.slice (l.map enc))) (hy:ev1 s lo=lit (.int k n)) (hz:ev1 s hi=lit (.int k2 m)) (hu:Y.underlying t=some (.slice e)) (hs:szT Y e=some sz) (hsz:∀ a,(enc a).length=sz) (hn:n=(i:Int)) (hm:m=(j:Int)) (hi1:i<=j) (hj:j<=l.length) :
 Body P Y nb s ⟨dst,.slice t x (some lo) (some hi) none,ty,pos,af,gd⟩ (.pv (.slice (((l.take j).drop i).map enc))) [] []:=by
 refine B.pure (lo:=0) (nm:=0) (ke P) ?_ ?_
 ·intro z hz'
  have:z=x\/z=lo\/z=hi:=by simpa [Op.operands] using hz'
  rcases this with rfl|rfl|rfl
  ·rw[hx];rfl
  ·rw[hy];rfl
  rw[hz];rfl
 have e1:evU (tmpsOf [x,lo,hi]) s x=_:=(qX (by simp)).trans hx
 have e2:evU (tmpsOf [x,lo,hi]) s lo=_:=(qX (by simp)).trans hy
 have e3:evU (tmpsOf [x,lo,hi]) s hi=_:=(qX (by simp)).trans hz
 have hv:effV Y 0 dst (.slice t x (some lo) (some hi) none) (evU (tmpsOf [x,lo,hi]) s) (qx [])=ZJ (kL Y t (qx []) (evU (tmpsOf [x,lo,hi]) s x) (some (evU (tmpsOf [x,lo,hi]) s lo)) (some (evU (tmpsOf [x,lo,hi]) s hi)) none):=by
  show (match frzU (qx []) (refsOf (evU (tmpsOf [x,lo,hi]) s) [x]) with
   | []=>stepV Y 0 dst (.slice t x (some lo) (some hi) none) (evU (tmpsOf [x,lo,hi]) s) (qx []) (qx [])
   | fz=>match stepV Y 0 dst (.slice t x (some lo) (some hi) none) (evU (tmpsOf [x,lo,hi]) s) (upd fz (qx [])) (upd fz (qx [])) with
    | some ⟨s,v,ms⟩=>some ⟨s,v,mrg ms fz⟩
    | none=>none)=_
  have hrf:refsOf (evU (tmpsOf [x,lo,hi]) s) [x]=[]:=by simp[refsOf,e1,DV.refs]
  rw[hrf];rfl
 show (match effV Y 0 dst (.slice t x (some lo) (some hi) none) (evU (tmpsOf [x,lo,hi]) s) (qx []) with|some ⟨true,v,m⟩=>some (v,m)|_=>none)=_
 rw[hv,e1,e2,e3]
 have hal:jK sz (l.map enc)=true:=by
  unfold jK
  rw[zp]
  intro b hb
  obtain⟨c,_,rfl⟩:=zE.1 hb
  simpa using hsz c
 have hq:kL Y t (qx []) (.pv (.slice (l.map enc))) (some (lit (.int k n))) (some (lit (.int k2 m))) none=some (true,.pv (.slice (((l.take j).drop i).map enc))):=by
  show kn Y t (qx []) (.pv (.slice (l.map enc))) (some (lit (.int k n))) (some (lit (.int k2 m))) none=_
  unfold kn lit
  simp only[hu,hs,bound,zP,hal,Bool.and_true]
  subst hn hm
  have:decide ((0:Int)<=(i:Int)/\(i:Int)<=(j:Int)/\(j:Int)<=((l.map enc).length:Int))=true:=zl ⟨by omega,by omega,by rw[zJ];omega⟩
  rw[this,zU,zU,List.map_drop,List.map_take]
 rw[hq];rfl
end
end Go.Lens
end
section
namespace Go.Lens.Tm
open Go.Lens.Tb Go.Proofs
variable [Lz]
set_option maxHeartbeats 4000000
set_option maxRecDepth 100000
attribute [local irreducible] TK PK T RG EfR Body CG
theorem by115:ty115.info.bytes=40:=by kernel_rfl
theorem fa115_1:fadQ tab 115 1=some 1:=by kernel_rfl
theorem fa116_0:fadQ tab 116 0=some 0:=by kernel_rfl
theorem in115:tab.info? 115=some ty115.info:=by kernel_rfl
theorem ZI:szT tab 115=some 3:=by kernel_rfl
theorem sz116:szT tab 116=some 3:=by kernel_rfl
theorem un82:tab.underlying 82=some (.slice 116):=by kernel_rfl
theorem un83:tab.underlying 83=some (.slice 115):=by kernel_rfl
theorem w136 (c:Cmd):CKa 136 [.pv (gC c)] (vI (jI c)):=by
 refine cG qf136 Z (nB Z) Z (E Z (B.seqB (a:=c.1) (b:=[97,99,116]) Z Z) (Cp Z Z (fun h1=>?_) (fun h1=>?_)))
 ·exact C Z (w104 (bsO c.2.1)) Z Z Z (C Z (w99 c.2.2 0 0) Z Z Z (E Z (B.jj (val:=.pv (.slice (List.map eI [(qF (!(qV (bsO c.2.1))) 8),(qG c.2.2 0 0)]))) Z (fun l=>Frz.arr l _ _ _ _ _) Z) (C Z (w100 [(qF (!(qV (bsO c.2.1))) 8),(qG c.2.2 0 0)] (nB Z)) Z Z Z (Dr Z (by kernel_rfl) (Rt Z (leaf (val0:=vI (qP [(qF (!(qV (bsO c.2.1))) 8),(qG c.2.2 0 0)])) (by kernel_rfl) (li (by (rw[jI,if_pos h1])))))))))
 refine E Z (B.seqB (a:=c.1) (b:=[101,110,100]) Z Z) (Cp Z Z (fun h2=>?_) (fun h2=>?_))
 ·exact E Z (B.sneB (a:=c.2.1) (b:=[]) Z Z) (C Z (w101 (decide (c.2.1≠[])) 1) Z Z Z (C Z (w99 c.2.2 0 0) Z Z Z (E Z (B.jj (val:=.pv (.slice (List.map eI [(qF (decide (c.2.1≠[])) 1),(qG c.2.2 0 0)]))) Z (fun l=>Frz.arr l _ _ _ _ _) Z) (C Z (w100 [(qF (decide (c.2.1≠[])) 1),(qG c.2.2 0 0)] (nB Z)) Z Z Z (Dr Z (by kernel_rfl) (Rt Z (leaf (val0:=vI (qP [(qF (decide (c.2.1≠[])) 1),(qG c.2.2 0 0)])) (by kernel_rfl) (li (by (rw[jI,if_neg h1,if_pos h2]))))))))))
 refine E Z (B.seqB (a:=c.1) (b:=[119,97,105,116]) Z Z) (Cp Z Z (fun h3=>?_) (fun h3=>?_))
 ·exact E Z (B.sneB (a:=c.2.1) (b:=[]) Z Z) (C Z (w101 (decide (c.2.1≠[])) 1) Z Z Z (C Z (w99 c.2.2 1 100000) Z Z Z (E Z (B.jj (val:=.pv (.slice (List.map eI [(qF (decide (c.2.1≠[])) 1),(qG c.2.2 1 100000)]))) Z (fun l=>Frz.arr l _ _ _ _ _) Z) (C Z (w100 [(qF (decide (c.2.1≠[])) 1),(qG c.2.2 1 100000)] (nB Z)) Z Z Z (Dr Z (by kernel_rfl) (Rt Z (leaf (val0:=vI (qP [(qF (decide (c.2.1≠[])) 1),(qG c.2.2 1 100000)])) (by kernel_rfl) (li (by (rw[jI,if_neg h1,if_neg h2,if_pos h3]))))))))))
 refine E Z (B.seqB (a:=c.1) (b:=[114,101,112,101,97,116]) Z Z) (Cp Z Z (fun h4=>?_) (fun h4=>?_))
 ·exact E Z (B.sneB (a:=c.2.1) (b:=[]) Z Z) (C Z (w101 (decide (c.2.1≠[])) 1) Z Z Z (C Z (w99 c.2.2 1 100) Z Z Z (E Z (B.jj (val:=.pv (.slice (List.map eI [(qF (decide (c.2.1≠[])) 1),(qG c.2.2 1 100)]))) Z (fun l=>Frz.arr l _ _ _ _ _) Z) (C Z (w100 [(qF (decide (c.2.1≠[])) 1),(qG c.2.2 1 100)] (nB Z)) Z Z Z (Dr Z (by kernel_rfl) (Rt Z (leaf (val0:=vI (qP [(qF (decide (c.2.1≠[])) 1),(qG c.2.2 1 100)])) (by kernel_rfl) (li (by (rw[jI,if_neg h1,if_neg h2,if_neg h3,if_pos h4]))))))))))
 exact Rt Z (leaf (val0:=vI 13) (by kernel_rfl) (li (by (rw[jI,if_neg h1,if_neg h2,if_neg h3,if_neg h4]))))
theorem w134 (o:List UInt8):CKa 134 [vS (bsO o)] (vI (jW o)):=by
 refine cG qf134 Z (nB Z) Z (E Z (B.seqB (a:=o) (b:=[97,99,116]) Z Z) (Cp Z Z (fun h1=>?_) (fun h1=>?_)))
 ·refine Cp Z Z (fun h2=>?_) (fun h2=>?_)
  ·exact Rt Z (leaf (val0:=vI 2) (by kernel_rfl) (li (by (rw[jW,if_pos (by assumption)]))))
  refine E Z (B.seqB (a:=o) (b:=[101,110,100]) Z Z) (Cp Z Z (fun h3=>?_) (fun h3=>?_))
  ·exact Rt Z (leaf (val0:=vI 1) (by kernel_rfl) (li (by (exfalso;contradiction))))
  exact Rt Z (leaf (val0:=vI 0) (by kernel_rfl) (li (by (exfalso;contradiction))))
 refine E Z (B.seqB (a:=o) (b:=[119,97,105,116]) Z Z) (Cp Z Z (fun h4=>?_) (fun h4=>?_))
 ·refine Cp Z Z (fun h5=>?_) (fun h5=>?_)
  ·exact Rt Z (leaf (val0:=vI 2) (by kernel_rfl) (li (by (rw[jW,if_neg (by assumption),if_pos (by assumption)]))))
  refine E Z (B.seqB (a:=o) (b:=[101,110,100]) Z Z) (Cp Z Z (fun h6=>?_) (fun h6=>?_))
  ·exact Rt Z (leaf (val0:=vI 1) (by kernel_rfl) (li (by (exfalso;contradiction))))
  exact Rt Z (leaf (val0:=vI 0) (by kernel_rfl) (li (by (exfalso;contradiction))))
 refine E Z (B.seqB (a:=o) (b:=[114,101,112,101,97,116]) Z Z) (Cp Z Z (fun h7=>?_) (fun h7=>?_))
 ·exact Rt Z (leaf (val0:=vI 2) (by kernel_rfl) (li (by (rw[jW,if_neg (by assumption),if_neg (by assumption),if_pos (by assumption)]))))
 refine E Z (B.seqB (a:=o) (b:=[101,110,100]) Z Z) (Cp Z Z (fun h8=>?_) (fun h8=>?_))
 ·exact Rt Z (leaf (val0:=vI 1) (by kernel_rfl) (li (by (rw[jW,if_neg (by assumption),if_neg (by assumption),if_neg (by assumption),if_pos (by assumption)]))))
 exact Rt Z (leaf (val0:=vI 0) (by kernel_rfl) (li (by (rw[jW,if_neg (by assumption),if_neg (by assumption),if_neg (by assumption),if_neg (by assumption)]))))
theorem w130 (c:Cmd):CKa 130 [.pv (gC c)] (vI (jI c)):=by
 refine cG qf130 Z (nB Z) Z (C Z (w134 c.1) Z Z Z (Cp Z Z (fun h1=>?_) (fun h1=>?_)))
 ·exact Rt Z (leaf (val0:=vI 13) (by kernel_rfl) (li (by (exact (chk_kind h1).symm))))
 refine E Z (B.seqB (a:=c.1) (b:=[97,99,116]) Z Z) (Eg Z Z (fun hc=>B.Z9 Z fa115_1 Z) Z (Eg Z Z (fun hc=>B.jP (qy Z hc) Z Z ag9 sz9 Z) Z (Eg Z Z (fun hc=>B.call (w94 (bsO c.2.1)) Z (ds1 (qy Z hc)) Z) Z (Eg Z Z (fun hc=>B.not (qy Z hc)) Z (E Z (B.pick Z Z Z (gdB Z) Z (qJ _)) (Cb Z Z (fun h2=>?_) (fun h2=>?_)))))))
 ·exact Rt Z (leaf (val0:=vI 8) (by kernel_rfl) (li (by (exact (chk_name h2).symm))))
 refine E Z (B.sneB (a:=c.1) (b:=[97,99,116]) Z Z) (Eg Z Z (fun hc=>B.Z9 Z fa115_1 Z) Z (Eg Z Z (fun hc=>B.jP (qy Z hc) Z Z ag9 sz9 Z) Z (Eg Z Z (fun hc=>B.sneB (a:=c.2.1) (b:=[]) (qy Z hc) Z) Z (E Z (B.pick Z Z Z (gdB Z) Z (qJ _)) (Cb Z Z (fun h3=>?_) (fun h3=>?_))))))
 ·exact Rt Z (leaf (val0:=vI 1) (by kernel_rfl) (li (by (exact (chk_form h1 h3).symm))))
 refine E Z (B.seqB (a:=c.1) (b:=[119,97,105,116]) Z Z) (Cp Z Z (fun h4=>?_) (fun h4=>?_))
 ·refine E Z (B.seqB (a:=c.1) (b:=[114,101,112,101,97,116]) Z Z) (Cp Z Z (fun h5=>?_) (fun h5=>?_))
  ·refine C Z (w93 c.2.2 1 100) Z Z Z (Cb Z Z (fun h6=>?_) (fun h6=>?_))
   ·exact Rt Z (leaf (val0:=vI 3) (by kernel_rfl) (li (by exact absurd (h4.symm.trans (by assumption)) (show ¬Z7=ZA by decide))))
   exact Rt Z (leaf (val0:=vI 0) (by kernel_rfl) (li (by exact absurd (h4.symm.trans (by assumption)) (show ¬Z7=ZA by decide))))
  refine C Z (w93 c.2.2 1 100000) Z Z Z (Cb Z Z (fun h7=>?_) (fun h7=>?_))
  ·exact Rt Z (leaf (val0:=vI 3) (by kernel_rfl) (li (by (rw[chk_rest h1 h2 h3,if_pos (by assumption)];exact (with_out (by assumption)).symm))))
  exact Rt Z (leaf (val0:=vI 0) (by kernel_rfl) (li (by (rw[chk_rest h1 h2 h3,if_pos (by assumption)];exact (with_in (by assumption)).symm))))
 refine E Z (B.seqB (a:=c.1) (b:=[114,101,112,101,97,116]) Z Z) (Cp Z Z (fun h8=>?_) (fun h8=>?_))
 ·refine C Z (w93 c.2.2 1 100) Z Z Z (Cb Z Z (fun h9=>?_) (fun h9=>?_))
  ·exact Rt Z (leaf (val0:=vI 3) (by kernel_rfl) (li (by (rw[chk_rest h1 h2 h3,if_neg (by assumption),if_pos (by assumption)];exact (with_out (by assumption)).symm))))
  exact Rt Z (leaf (val0:=vI 0) (by kernel_rfl) (li (by (rw[chk_rest h1 h2 h3,if_neg (by assumption),if_pos (by assumption)];exact (with_in (by assumption)).symm))))
 refine C Z (w93 c.2.2 0 0) Z Z Z (Cb Z Z (fun h10=>?_) (fun h10=>?_))
 ·exact Rt Z (leaf (val0:=vI 3) (by kernel_rfl) (li (by (rw[chk_rest h1 h2 h3,if_neg (by assumption),if_neg (by assumption)];exact (with_out (by assumption)).symm))))
 exact Rt Z (leaf (val0:=vI 0) (by kernel_rfl) (li (by (rw[chk_rest h1 h2 h3,if_neg (by assumption),if_neg (by assumption)];exact (with_in (by assumption)).symm))))
theorem w138 (l:List Cmd) (i:Nat) (hi:i<=l.length) (hl:l.length<=1000000000000):CKa 138 [vL eC l,vI i] (vI ((j3 0 i (List.drop i l):Nat):Int)):=by
 refine cG qf138 Z (nB Z) Z (l2 (fun (k:Nat) (d:Int)=>[(0,vL eC l),(5,vI d),(6,vI k)]) (fun _ _=>[]) (fun k d=>k<=l.length/\j3 0 i (List.drop i l)=j3 d k (List.drop k l)/\ -(k:Int)<=d/\d<=(k:Int)) (fun k _=>l.length-k) i 0 Z ?_ (sb Z Z Z) ?_)
 · exact⟨hi,rfl,by omega,by omega⟩
 intro k d hI0
 refine E Z (B.jh Z un83) (Cp Z Z (fun h1=>?_) (fun h1=>?_))
 ·refine E Z (B.idx (z:=z3) (i:=k) Z Z un83 ZI (fun _=>rfl) Z (by omega)) (E Z (B.seqB (a:=(l.getD k z3).1) (b:=[114,101,112,101,97,116]) Z Z) (Cp Z Z (fun h2=>?_) (fun h2=>?_)))
  ·refine E Z (B.add Z Z (by unfold R64;omega)) (E Z (B.idx (z:=z3) (i:=k) Z Z un83 ZI (fun _=>rfl) Z (by omega)) (E Z (B.seqB (a:=(l.getD k z3).1) (b:=[101,110,100]) Z Z) (Cp Z Z (fun h3=>?_) (fun h3=>?_))))
   ·refine E Z (B.sub Z Z (by unfold R64;omega)) (Cp Z Z (fun h4=>?_) (fun h4=>?_))
    ·exact Rt Z (leaf (val0:=vI k) (by kernel_rfl) (li (by exact absurd (Eq.trans (Eq.symm h2) h3) kO)))
    refine E Z (B.add Z Z (by unfold R64;omega)) (pk Z (L2 (k+1) ((d+1)-1) ?_ ?_ (sb Z Z Z)))
    ·
      refine⟨by omega,hI0.2.1.trans ?_,by omega,by omega⟩;exact absurd (Eq.trans (Eq.symm h2) h3) kO
    · omega
   refine E Z (B.add Z Z (by unfold R64;omega)) (pk Z (L2 (k+1) (d+1) ?_ ?_ (sb Z Z Z)))
   ·
     refine⟨by omega,hI0.2.1.trans ?_,by omega,by omega⟩;exact mat_rep (by omega) h2
   · omega
  refine E Z (B.idx (z:=z3) (i:=k) Z Z un83 ZI (fun _=>rfl) Z (by omega)) (E Z (B.seqB (a:=(l.getD k z3).1) (b:=[101,110,100]) Z Z) (Cp Z Z (fun h5=>?_) (fun h5=>?_)))
  ·refine E Z (B.sub Z Z (by unfold R64;omega)) (Cp Z Z (fun h6=>?_) (fun h6=>?_))
   ·exact Rt Z (leaf (val0:=vI k) (by kernel_rfl) (li (by (rw[hI0.2.1,mat_end (by omega) h5,if_pos h6]))))
   refine E Z (B.add Z Z (by unfold R64;omega)) (pk Z (L2 (k+1) (d-1) ?_ ?_ (sb Z Z Z)))
   ·
     refine⟨by omega,hI0.2.1.trans ?_,by omega,by omega⟩;(rw[mat_end (by omega) h5,if_neg h6])
   · omega
  refine E Z (B.add Z Z (by unfold R64;omega)) (pk Z (L2 (k+1) d ?_ ?_ (sb Z Z Z)))
  ·
    refine⟨by omega,hI0.2.1.trans ?_,by omega,by omega⟩;exact mat_one (by omega) h2 h5
  · omega
 exact E Z (B.jh Z un83) (Rt Z (leaf (val0:=vI l.length) (by kernel_rfl) (li (by (rw[hI0.2.1,mat_nil (by omega)];omega)))))
theorem w61 (l:List Cmd) (d:Nat) (hw:Wf d l) (hc:∀ c∈l,jI c=0) (hl:l.length<=64) (hd:d<=4)
 (hrec:∀ (b:List Cmd) (d1:Nat),b.length<l.length->Wf d1 b->(∀ c∈b,jI c=0)->d1<=4->CKa 61 [vL eC b] (vI (kH b))):CKa 61 [vL eC l] (vI (kH l)):=by
 refine cG qf61 Z (nB Z) Z ?_
 have hsl:=wf_small hw hd hc hl
 refine l2 (fun (i:Nat) (n:Int)=>[(0,vL eC l),(3,vI n),(4,vI i)]) (fun _ _=>[]) (fun i n=>i<=l.length/\Wf d (List.drop i l)/\n+kH (List.drop i l)=kH l/\0<=n) (fun i _=>l.length-i) 0 0 Z ?_ (sb Z Z Z) ?_
 · (exact⟨zq _,hw,by rw[List.drop_zero];omega,by omega⟩)
 intro i n hI0
 have hs0:=wf_small hI0.2.1 hd (fun c h=>hc c (zt h)) (by rw[zo];omega)
 refine E Z (B.jh Z un83) (Cp Z Z (fun h1=>?_) (fun h1=>?_))
 ·refine E Z (B.idx (z:=z3) (i:=i) Z Z un83 ZI (fun _=>rfl) Z (by omega)) (E Z (B.sneB (a:=(l.getD i z3).1) (b:=[114,101,112,101,97,116]) Z Z) (Cp Z Z (fun h2=>?_) (fun h2=>?_)))
  ·refine E Z (B.add Z Z (by unfold R64;omega)) (E Z (B.add Z Z (by unfold R64;omega)) (pk Z (L2 (i+1) (n+1) ?_ ?_ (sb Z Z Z))))
   ·
     (obtain⟨q1,q2,q3⟩:=wf_next hI0.2.1 (by omega) h2;exact⟨by omega,q2,by omega,by omega⟩)
   · omega
  refine C Z (w138 l i (by omega) (by omega)) Z Z Z ?_
  refine tk 8 Z ?_
  refine tn ⟨[(0,vL eC l),(3,vI n),(4,vI i),(5,vI ((j3 0 i (List.drop i l):Nat):Int))],[]⟩ rfl rfl Z ?_
  obtain⟨d1,e,hde,he,he1,he2,hwb,hwr,hle⟩:=wf_at hI0.2.1 (by omega) (zi.1 h2)
  rw[<-he]
  have hcb:∀ c∈List.drop (i+1) (List.take e l),jI c=0:=fun c h=>hc c (zr (zt h))
  have hbl:(List.drop (i+1) (List.take e l)).length<l.length:=by rw[zo,zn];omega
  have hsb:=wf_small hwb (by omega) hcb (by omega)
  have hsr:=wf_small hwr hd (fun c h=>hc c (zt h)) (by rw[zo];omega)
  have hcn:=cnt_rep (hc _ (getD_mem (z:=z3) (k:=i) (by omega))) (zi.1 h2)
  have hpn:0<=(l.getD i z3).2.2*(1+kH (List.drop (i+1) (List.take e l))):=Int.mul_nonneg (by omega) (by omega)
  refine kc (E Z (B.idx (z:=z3) (i:=i) Z Z un83 ZI (fun _=>rfl) Z (by omega)) (E Z (B.add Z Z (by unfold R64;omega)) (E Z (B.slTD (i:=(i+1)) (j:=e) Z Z Z un83 ZI (fun _=>rfl) (by omega) Z (by omega) (by omega)) (C Z (hrec _ d1 hbl hwb hcb (by omega)) Z Z Z (E Z (B.add Z Z (by unfold R64;omega)) (E Z (B.mul Z Z (by unfold R64;omega)) (E Z (B.add Z Z (by unfold R64;omega)) (Dr Z (by kernel_rfl) (E Z (B.add Z Z (by unfold R64;omega)) (pk Z (L2 (e+1) (n+((l.getD i z3).2.2*(1+(kH (List.drop (i+1) (List.take e l)))))) ?_ ?_ (sb Z Z Z))))))))))))
  ·
    exact⟨by omega,hwr,by omega,by omega⟩
  · omega
 exact Rt Z (leaf (val0:=vI n) (by kernel_rfl) (li (by have hz:=hI0.2.2.1;rw[zN (by omega),lenP_nil] at hz;omega)))
theorem w61r:∀ (n:Nat) (l:List Cmd) (d:Nat),l.length<=n->Wf d l->(∀ c∈l,jI c=0)->l.length<=64->d<=4->CKa 61 [vL eC l] (vI (kH l))
 | 0,l,d,hn,hw,hc,hl,hd=>w61 l d hw hc hl hd fun b d1 hb=>absurd hb (by omega)
 | n+1,l,d,hn,hw,hc,hl,hd=>w61 l d hw hc hl hd fun b d1 hb hw1 hc1 hd1=>w61r n b d1 (by omega) hw1 hc1 (by omega) hd1
theorem w61s {l:List Cmd} (hl:l.length<=64) (hc:∀ c∈l,jI c=0) (hd:depC 0 l=0):CKa 61 [vL eC l] (vI (kH l)):=w61r l.length l 4 (zz _) (wf_of hd) hc hl (by omega)
theorem w137 (l:List Cmd) (hc:∀ c∈l,jI c=0) (hl:l.length<=64) (hd:depC 0 l=0):CKa 137 [vL eC l] (vI (kH l)):=by
 refine cG qf137 Z (nB Z) Z ?_
 have hsl:=wf_small (wf_of hd) (by omega) hc hl
 refine E Z (B.run Z) (E Z (B.adopt 5 1 3 Z Z) (E Z (B.jh Z un82) (l5 (fun (k:Nat) (v:Nat) (u:Nat) (s:Int) (st:List (Int×Int))=>[(3,.aref 9 v),(4,.aref 5 u),(9,vL eC l),(10,vI l.length),(11,vI k)]) (fun _ v u s st=>[(5,.arr u 1 3 (List.map eI (cnL st))),(9,.arr v 1 3 (List.map eI (smL st s)))]) (fun k _ _ s st=>k<=l.length/\LnI l k s st) (fun k _ _ _ _=>l.length-k) 0 0 0 0 [] Z ?_ (sb Z Z Z) ?_)))
 · exact⟨zq _,ln_init hd⟩
 intro k v u s st hI0
 have hle:=ln_le hI0.2 hc
 have hsk:=hI0.2.1.2.2
 have hsl2:=smL_len st s
 have hcl2:=cnL_len st
 refine Cp Z Z (fun h1=>?_) (fun h1=>?_)
 ·refine E Z (B.idx (z:=z3) (i:=k) Z Z un82 sz116 (fun _=>rfl) Z (by omega)) (E Z (B.lenA Z Z ku) (E Z (B.sub Z Z (by unfold R64;omega)) ?_))
  refine tk 7 Z ?_
  refine tn ⟨[(3,.aref 9 v),(4,.aref 5 u),(6,.bref 7 0),(7,vI (((List.length (smL st s):Nat):Int)-1)),(9,vL eC l),(10,vI l.length),(11,vI k)],[(5,.arr u 1 3 (List.map eI (cnL st))),(7,bC 116 (l.getD k z3)),(9,.arr v 1 3 (List.map eI (smL st s)))]⟩ rfl rfl Z ?_
  obtain⟨m,hm⟩:∃ m,m=st.length:=⟨_,rfl⟩
  rw[show (((List.length (smL st s):Nat):Int)-1)=(m:Int) by omega]
  refine kc (E Z (B.seqB (a:=(l.getD k z3).1) (b:=[114,101,112,101,97,116]) Z Z) (Cp Z Z (fun h2=>?_) (fun h2=>?_)))
  ·refine E Z (B.jj (val:=.pv (.slice (List.map eI [1]))) Z (fun l=>Frz.arr l _ _ _ _ _) Z) (E Z (B.append Z Z Z ku in3 Z (fun _=>rfl) by3 (by (simp only[List.length_set,za,zb,zd];omega))) (E Z (B.jj (val:=.pv (.slice (List.map eI [(l.getD k z3).2.2]))) Z (fun l=>Frz.arr l _ _ _ _ _) Z) (E Z (B.append Z Z Z ku in3 Z (fun _=>rfl) by3 (by (simp only[List.length_set,za,zb,zd];omega))) (Dr Z (by kernel_rfl) (E Z (B.add Z Z (by unfold R64;omega)) (pk Z (L5 (k+1) (v+1) (u+1) 1 ((s,(l.getD k z3).2.2)::st) ?_ ?_ (sb Z Z Z))))))))
   ·
     refine⟨by omega,?_⟩;exact ln_rep hI0.2 hc (by omega) h2
   · omega
  refine E Z (B.seqB (a:=(l.getD k z3).1) (b:=[101,110,100]) Z Z) (Cp Z Z (fun h3=>?_) (fun h3=>?_))
  ·refine tk 12 Z ?_
   refine tn ⟨[(3,.aref 9 v),(4,.aref 5 u),(7,vI m),(9,vL eC l),(10,vI l.length),(11,vI k)],[(5,.arr u 1 3 (List.map eI (cnL st))),(9,.arr v 1 3 (List.map eI (smL st s)))]⟩ rfl rfl Z ?_
   obtain⟨p,st2,rfl⟩:=ln_some hI0.2 (by omega) h3
   have hm2:m=st2.length+1:=hm
   have g1:(List.getD (smL (p::st2) s) (m-1) 0)=Prod.fst p:=by rw[hm2];exact smL_get2 p st2 s
   have g2:(List.getD (cnL (p::st2)) (m-1) 0)=Prod.snd p:=by rw[hm2];exact cnL_get p st2
   have g3:(List.getD (smL (p::st2) s) m 0)=s:=by rw[hm2];exact smL_get (p::st2) s
   have hpop:=ln_pop hI0.2 (by omega) h3
   have hpl:=(ln_le hpop hc).1
   have hp0:=hI0.2.2.2 p (qm ..)
   have hq1:0<=(List.getD (cnL (p::st2)) (m-1) 0)*(List.getD (smL (p::st2) s) m 0)/\(List.getD (smL (p::st2) s) (m-1) 0)+(List.getD (cnL (p::st2)) (m-1) 0)*(List.getD (smL (p::st2) s) m 0)<=7000000000/\0<=(List.getD (smL (p::st2) s) (m-1) 0):=by
     rw[g1,g2,g3];exact⟨Int.mul_nonneg (by omega) hI0.2.2.1,by omega,hp0.1⟩
   refine kc (E Z (B.sub Z Z (by unfold R64;omega)) (E Z (B.idxE (n:=(m-1)) Z Z Z ku sz3 (by omega) (by omega)) (E Z (B.loadE (n:=(m-1)) (z0:=0) Z Z ag3 sz3 (by omega) Z) (E Z (B.sub Z Z (by unfold R64;omega)) (E Z (B.idxE (n:=(m-1)) Z Z Z ku sz3 (by omega) (by omega)) (E Z (B.loadE (n:=(m-1)) (z0:=0) Z Z ag3 sz3 (by omega) Z) (E Z (B.idxE (n:=m) Z Z Z ku sz3 Z (by omega)) (E Z (B.loadE (n:=m) (z0:=0) Z Z ag3 sz3 (by omega) Z) (E Z (B.mul Z Z (by unfold R64;omega)) (E Z (B.add Z Z (by unfold R64;omega)) (E Z (B.idxE (n:=(m-1)) Z Z Z ku sz3 (by omega) (by omega)) (E Z (B.setE (z0:=((List.getD (smL (p::st2) s) (m-1) 0)+((List.getD (cnL (p::st2)) (m-1) 0)*(List.getD (smL (p::st2) s) m 0)))) Z Z Z Z Z sz3 (by omega) (fun _=>rfl)) (Dr Z (by kernel_rfl) ?_)))))))))))))
   refine E Z (B.slA (n:=m) Z Z Z ku sz3 Z (by (simp only[List.length_set,za,zb,zd];omega))) (E Z (B.sub Z Z (by unfold R64;omega)) (E Z (B.slA (n:=(m-1)) Z Z Z ku sz3 (by omega) (by omega)) (Dr Z (by kernel_rfl) ?_)))
   refine tk 14 Z ?_
   refine tn ⟨[(3,.atrunc 9 v m),(4,.atrunc 5 u (m-1)),(9,vL eC l),(10,vI l.length),(11,vI k)],[(5,.arr u 1 3 (List.map eI (cnL (p::st2)))),(9,.arr v 1 3 (List.map eI (List.set (smL (p::st2) s) (m-1) ((List.getD (smL (p::st2) s) (m-1) 0)+((List.getD (cnL (p::st2)) (m-1) 0)*(List.getD (smL (p::st2) s) m 0))))))]⟩ rfl rfl Z ?_
   refine TK.trunc (t:=3) Z Z ?_
   refine TK.norm ⟨[(3,.aref 9 (v+1)),(4,.atrunc 5 u (m-1)),(9,vL eC l),(10,vI l.length),(11,vI k)],[(5,.arr u 1 3 (List.map eI (cnL (p::st2)))),(9,.arr (v+1) 1 3 (List.map eI (List.take m (List.set (smL (p::st2) s) (m-1) ((List.getD (smL (p::st2) s) (m-1) 0)+((List.getD (cnL (p::st2)) (m-1) 0)*(List.getD (smL (p::st2) s) m 0)))))))]⟩ (sb Z Z Z) ?_
   refine TK.trunc (t:=4) Z Z ?_
   refine TK.norm ⟨[(3,.aref 9 (v+1)),(4,.aref 5 (u+1)),(9,vL eC l),(10,vI l.length),(11,vI k)],[(5,.arr (u+1) 1 3 (List.map eI (List.take (m-1) (cnL (p::st2))))),(9,.arr (v+1) 1 3 (List.map eI (List.take m (List.set (smL (p::st2) s) (m-1) ((List.getD (smL (p::st2) s) (m-1) 0)+((List.getD (cnL (p::st2)) (m-1) 0)*(List.getD (smL (p::st2) s) m 0)))))))]⟩ (sb Z Z Z) ?_
   have e1:(List.take m (List.set (smL (p::st2) s) (m-1) ((List.getD (smL (p::st2) s) (m-1) 0)+((List.getD (cnL (p::st2)) (m-1) 0)*(List.getD (smL (p::st2) s) m 0)))))=smL st2 (Prod.fst p+Prod.snd p*s):=by rw[g1,g2,g3,hm2];exact smL_pop p st2 s _
   have e2:(List.take (m-1) (cnL (p::st2)))=cnL st2:=by rw[hm2];exact cnL_pop p st2
   rw[e1,e2]
   refine kc (E Z (B.add Z Z (by unfold R64;omega)) (pk Z (L5 (k+1) (v+1) (u+1) (Prod.fst p+Prod.snd p*s) st2 ?_ ?_ (sb Z Z Z))))
   ·
     refine⟨by omega,?_⟩;exact hpop
   · omega
  have g4:List.getD (smL st s) m 0=s:=by rw[hm];exact smL_get st s
  have hsn:=hI0.2.2.1
  refine E Z (B.idxE (n:=m) Z Z Z ku sz3 Z (by omega)) (E Z (B.loadE (n:=m) (z0:=0) Z Z ag3 sz3 (by omega) Z) (E Z (B.add Z Z (by unfold R64;omega)) (E Z (B.idxE (n:=m) Z Z Z ku sz3 Z (by omega)) (E Z (B.setE (z0:=((List.getD (smL st s) m 0)+1)) Z Z Z Z Z sz3 (by omega) (fun _=>rfl)) ?_))))
  refine tk 14 Z ?_
  refine tn ⟨[(3,.aref 9 v),(4,.aref 5 u),(9,vL eC l),(10,vI l.length),(11,vI k)],[(5,.arr u 1 3 (List.map eI (cnL st))),(9,.arr v 1 3 (List.map eI (List.set (smL st s) m ((List.getD (smL st s) m 0)+1))))]⟩ rfl rfl Z ?_
  have e1:(List.set (smL st s) m ((List.getD (smL st s) m 0)+1))=smL st (s+1):=by rw[g4,hm];exact smL_set st s _
  rw[e1]
  refine kc (E Z (B.add Z Z (by unfold R64;omega)) (pk Z (L5 (k+1) v u (s+1) st ?_ ?_ (sb Z Z Z))))
  ·
    refine⟨by omega,?_⟩;exact ln_one hI0.2 (by omega) h2 h3
  · omega
 exact E Z (B.idxE (n:=0) Z Z Z ku sz3 Z (by omega)) (E Z (B.loadE (n:=0) (z0:=0) Z Z ag3 sz3 (by omega) Z) (Rt Z (leaf (val0:=vI (List.getD (smL st s) 0 0)) (by kernel_rfl) (li (by exact ln_end hI0.2 (by omega))))))
theorem w59 (l:List Cmd) (hl:l.length<=1000000000000000):CKa 59 [vL eC l] (vI (chkS l)):=by
 refine cG qf59 Z (nB Z) Z (E Z (B.jh Z un82) (Cp Z Z (fun h1=>?_) (fun h1=>?_)))
 ·exact Rt Z (leaf (val0:=vI 5) (by kernel_rfl) (li (by (exact (chkS_many h1).symm))))
 refine E Z (B.jh Z un82) (l1 (fun (k:Nat)=>[(0,vL eC l),(12,vL eC l),(13,vI l.length),(14,vI k)]) (fun _=>[]) (fun k=>k<=l.length/\badC l=badC (List.drop k l)) (fun k=>l.length-k) 0 Z ?_ (sb Z Z Z) ?_)
 · exact⟨zq _,rfl⟩
 intro k hI0
 refine Cp Z Z (fun h2=>?_) (fun h2=>?_)
 ·refine E Z (B.idx (z:=z3) (i:=k) Z Z un82 sz116 (fun _=>rfl) Z (by omega)) (C Z (w136 (l.getD k z3)) Z Z Z (Cp Z Z (fun h3=>?_) (fun h3=>?_)))
  ·exact Rt Z (leaf (val0:=vI (jI (l.getD k z3))) (by kernel_rfl) (li (by (exact (chkS_bad h1 (hI0.2.trans (badC_no (by omega) h3)) h3).symm))))
  refine E Z (B.add Z Z (by unfold R64;omega)) (pk Z (L1 (k+1) ?_ ?_ (sb Z Z Z)))
  · exact⟨by omega,hI0.2.trans (badC_ok (by omega) (zi.1 h3))⟩
  · omega
 have hb0:badC l=0:=hI0.2.trans (bad_end (by omega))
 have hc:=badC_all hb0
 refine E Z (B.jh Z un82) (l2 (fun (k:Nat) (d:Nat)=>[(0,vL eC l),(6,vI d),(24,vL eC l),(25,vI l.length),(26,vI k)]) (fun _ _=>[]) (fun k d=>k<=l.length/\d<=4/\depC 0 l=depC d (List.drop k l)) (fun k _=>l.length-k) 0 0 Z ?_ (sb Z Z Z) ?_)
 · exact⟨zq _,by omega,rfl⟩
 intro k d hI1
 refine Cp Z Z (fun h4=>?_) (fun h4=>?_)
 ·refine E Z (B.idx (z:=z3) (i:=k) Z Z un82 sz116 (fun _=>rfl) Z (by omega)) (E Z (B.seqB (a:=(l.getD k z3).1) (b:=[114,101,112,101,97,116]) Z Z) (Cp Z Z (fun h5=>?_) (fun h5=>?_)))
  ·refine Cp Z Z (fun h6=>?_) (fun h6=>?_)
   ·exact Rt Z (leaf (val0:=vI 22) (by kernel_rfl) (li (by (exact (chkS_dep h1 hb0 (hI1.2.2.trans ((dep_rep (by omega) (by assumption)).trans (if_pos (by omega)))) (by decide)).symm))))
   refine E Z (B.add Z Z (by unfold R64;omega)) (E Z (B.add Z Z (by unfold R64;omega)) (pk Z (L2 (k+1) (d+1) ?_ ?_ (sb Z Z Z))))
   ·
     exact⟨by omega,by omega,hI1.2.2.trans ((dep_rep (by omega) (by assumption)).trans (if_neg (by omega)))⟩
   · omega
  refine E Z (B.seqB (a:=(l.getD k z3).1) (b:=[101,110,100]) Z Z) (Cp Z Z (fun h7=>?_) (fun h7=>?_))
  ·refine Cp Z Z (fun h8=>?_) (fun h8=>?_)
   ·exact Rt Z (leaf (val0:=vI 2) (by kernel_rfl) (li (by (exact (chkS_dep h1 hb0 (hI1.2.2.trans ((dep_end (by omega) (by assumption)).trans (if_pos (by omega)))) (by decide)).symm))))
   refine E Z (B.sub Z Z (by unfold R64;omega)) ?_
   refine tk 23 Z ?_
   refine tn ⟨[(0,vL eC l),(6,vI ((d:Int)-1)),(24,vL eC l),(25,vI l.length),(26,vI k)],[]⟩ rfl rfl Z ?_
   rw[show (d:Int)-1=(((d-1):Nat):Int) by omega]
   refine kc (E Z (B.add Z Z (by unfold R64;omega)) (pk Z (L2 (k+1) (d-1) ?_ ?_ (sb Z Z Z))))
   ·
     exact⟨by omega,by omega,hI1.2.2.trans ((dep_end (by omega) (by assumption)).trans (if_neg (by omega)))⟩
   · omega
  refine E Z (B.add Z Z (by unfold R64;omega)) (pk Z (L2 (k+1) d ?_ ?_ (sb Z Z Z)))
  ·
    exact⟨by omega,by omega,hI1.2.2.trans (dep_one (by omega) (by assumption) (by assumption))⟩
  · omega
 have hd0:depC 0 l=if 0<d then 2 else 0:=hI1.2.2.trans (dep_nil (by omega))
 refine Cp Z Z (fun h9=>?_) (fun h9=>?_)
 ·exact Rt Z (leaf (val0:=vI 2) (by kernel_rfl) (li (by (exact (chkS_dep h1 hb0 (hd0.trans (if_pos (by omega))) (by decide)).symm))))
 have hd:depC 0 l=0:=hd0.trans (if_neg (by omega))
 exact C Z (w137 l hc (by omega) hd) Z Z Z (C Z (w101 (decide (10000<(kH l))) 22) Z Z Z (Rt Z (leaf (val0:=vI (qF (decide (10000<(kH l))) 22)) (by kernel_rfl) (li (by (exact (chkS_len h1 hb0 hd).symm))))))
theorem w56 (l:List Cmd) (hl:l.length<=1000000000000000):CKa 56 [vL eC l] (vI (chkS l)):=by
 refine cG qf56 Z (nB Z) Z (E Z (B.jh Z un83) (Cp Z Z (fun h1=>?_) (fun h1=>?_)))
 ·exact Rt Z (leaf (val0:=vI 5) (by kernel_rfl) (li (by (exact (chkS_many h1).symm))))
 refine l1 (fun (k:Nat)=>[(0,vL eC l),(3,vI k)]) (fun _=>[]) (fun k=>k<=l.length/\badC l=badC (List.drop k l)) (fun k=>l.length-k) 0 Z ?_ (sb Z Z Z) ?_
 · exact⟨zq _,rfl⟩
 intro k hI0
 refine E Z (B.jh Z un83) (Cp Z Z (fun h2=>?_) (fun h2=>?_))
 ·refine E Z (B.idx (z:=z3) (i:=k) Z Z un83 ZI (fun _=>rfl) Z (by omega)) (C Z (w130 (l.getD k z3)) Z Z Z (Cp Z Z (fun h3=>?_) (fun h3=>?_)))
  ·exact Rt Z (leaf (val0:=vI (jI (l.getD k z3))) (by kernel_rfl) (li (by (exact (chkS_bad h1 (hI0.2.trans (badC_no (by omega) h3)) h3).symm))))
  refine E Z (B.add Z Z (by unfold R64;omega)) (pk Z (L1 (k+1) ?_ ?_ (sb Z Z Z)))
  · exact⟨by omega,hI0.2.trans (badC_ok (by omega) (zi.1 h3))⟩
  · omega
 have hb0:badC l=0:=hI0.2.trans (bad_end (by omega))
 have hc:=badC_all hb0
 refine l2 (fun (k:Nat) (d:Nat)=>[(0,vL eC l),(5,vI d),(6,vI k)]) (fun _ _=>[]) (fun k d=>k<=l.length/\d<=4/\depC 0 l=depC d (List.drop k l)) (fun k _=>l.length-k) 0 0 Z ?_ (sb Z Z Z) ?_
 · exact⟨zq _,by omega,rfl⟩
 intro k d hI1
 refine E Z (B.jh Z un83) (Cp Z Z (fun h4=>?_) (fun h4=>?_))
 ·refine E Z (B.idx (z:=z3) (i:=k) Z Z un83 ZI (fun _=>rfl) Z (by omega)) (E Z (B.seqB (a:=(l.getD k z3).1) (b:=[101,110,100]) Z Z) (Cp Z Z (fun h5=>?_) (fun h5=>?_)))
  ·refine Cp Z Z (fun h6=>?_) (fun h6=>?_)
   ·exact Rt Z (leaf (val0:=vI 2) (by kernel_rfl) (li (by (exact (chkS_dep h1 hb0 (hI1.2.2.trans ((dep_end (by omega) (by assumption)).trans (if_pos (by omega)))) (by decide)).symm))))
   refine E Z (B.sub Z Z (by unfold R64;omega)) ?_
   refine tk 17 Z ?_
   refine tn ⟨[(0,vL eC l),(5,vI ((d:Int)-1)),(6,vI k)],[]⟩ rfl rfl Z ?_
   rw[show (d:Int)-1=(((d-1):Nat):Int) by omega]
   refine kc (E Z (B.idx (z:=z3) (i:=k) Z Z un83 ZI (fun _=>rfl) Z (by omega)) (E Z (B.seqB (a:=(l.getD k z3).1) (b:=[114,101,112,101,97,116]) Z Z) (Cp Z Z (fun h7=>?_) (fun h7=>?_))))
   ·refine Cp Z Z (fun h8=>?_) (fun h8=>?_)
    ·exact Rt Z (leaf (val0:=vI 22) (by kernel_rfl) (li (by (exact (chkS_dep h1 hb0 (hI1.2.2.trans ((dep_rep (by omega) (by assumption)).trans (if_pos (by omega)))) (by decide)).symm))))
    refine E Z (B.add Z Z (by unfold R64;omega)) (E Z (B.add Z Z (by unfold R64;omega)) (pk Z (L2 (k+1) ((d-1)+1) ?_ ?_ (sb Z Z Z))))
    ·
      exact absurd (Eq.trans (Eq.symm (by assumption)) (by assumption)) kO
    · omega
   refine E Z (B.add Z Z (by unfold R64;omega)) (pk Z (L2 (k+1) (d-1) ?_ ?_ (sb Z Z Z)))
   ·
     exact⟨by omega,by omega,hI1.2.2.trans ((dep_end (by omega) (by assumption)).trans (if_neg (by omega)))⟩
   · omega
  refine E Z (B.idx (z:=z3) (i:=k) Z Z un83 ZI (fun _=>rfl) Z (by omega)) (E Z (B.seqB (a:=(l.getD k z3).1) (b:=[114,101,112,101,97,116]) Z Z) (Cp Z Z (fun h9=>?_) (fun h9=>?_)))
  ·refine Cp Z Z (fun h10=>?_) (fun h10=>?_)
   ·exact Rt Z (leaf (val0:=vI 22) (by kernel_rfl) (li (by (exact (chkS_dep h1 hb0 (hI1.2.2.trans ((dep_rep (by omega) (by assumption)).trans (if_pos (by omega)))) (by decide)).symm))))
   refine E Z (B.add Z Z (by unfold R64;omega)) (E Z (B.add Z Z (by unfold R64;omega)) (pk Z (L2 (k+1) (d+1) ?_ ?_ (sb Z Z Z))))
   ·
     exact⟨by omega,by omega,hI1.2.2.trans ((dep_rep (by omega) (by assumption)).trans (if_neg (by omega)))⟩
   · omega
  refine E Z (B.add Z Z (by unfold R64;omega)) (pk Z (L2 (k+1) d ?_ ?_ (sb Z Z Z)))
  ·
    exact⟨by omega,by omega,hI1.2.2.trans (dep_one (by omega) (by assumption) (by assumption))⟩
  · omega
 have hd0:depC 0 l=if 0<d then 2 else 0:=hI1.2.2.trans (dep_nil (by omega))
 refine Cp Z Z (fun h11=>?_) (fun h11=>?_)
 ·exact Rt Z (leaf (val0:=vI 2) (by kernel_rfl) (li (by (exact (chkS_dep h1 hb0 (hd0.trans (if_pos (by omega))) (by decide)).symm))))
 have hd:depC 0 l=0:=hd0.trans (if_neg (by omega))
 refine C Z (w61s (by omega) hc hd) Z Z Z (Cp Z Z (fun h12=>?_) (fun h12=>?_))
 ·exact Rt Z (leaf (val0:=vI 22) (by kernel_rfl) (li (by (rw[chkS_len h1 hb0 hd,qF,zl (by assumption)];rfl))))
 exact Rt Z (leaf (val0:=vI 0) (by kernel_rfl) (li (by (rw[chkS_len h1 hb0 hd,qF,zk (by assumption)];rfl))))
end Go.Lens.Tm
end
section
namespace Go.Lens.Tm
open Go.Lens.Tb Go.Proofs
theorem wrong_b (s:LSt):(bif (bif (bif (decide (0<(Prod.fst (Prod.snd s)))) then (decide ((Prod.fst s)≠[99,108,111,115,101,100])) else false) then true else (bif (Prod.fst (Prod.snd (Prod.snd s))) then (decide ((Prod.fst s)=[99,108,111,115,101,100])) else false)) then true else (bif (Prod.snd (Prod.snd (Prod.snd s))) then (bif (decide ((Prod.fst s)=[111,112,101,110])) then true else (decide ((Prod.fst s)=[99,108,111,115,101,100]))) else false))=wrongB s:=by
 simp only[jA,jw,wrongB]
theorem st_one (s:LSt):qP [(qF (!(List.any [[105,100,108,101],[111,112,101,110],[99,108,111,115,101,100],[115,97,102,101]] (fun y=>decide ((Prod.fst s)=y)))) 13),(qG (Prod.fst (Prod.snd s)) 0 2),(qF (bif (bif (bif (decide (0<(Prod.fst (Prod.snd s)))) then (decide ((Prod.fst s)≠[99,108,111,115,101,100])) else false) then true else (bif (Prod.fst (Prod.snd (Prod.snd s))) then (decide ((Prod.fst s)=[99,108,111,115,101,100])) else false)) then true else (bif (Prod.snd (Prod.snd (Prod.snd s))) then (bif (decide ((Prod.fst s)=[111,112,101,110])) then true else (decide ((Prod.fst s)=[99,108,111,115,101,100]))) else false)) 18)]=chkSt s:=by
 rw[wrong_b]
 simp only[List.any_cons,List.any_nil,Bool.or_false]
 rfl
theorem take_stp (l:List Stp) (k:Nat) (h:k<l.length):l.take (k+1)=l.take k++[l.getD k (0,[])]:=by
 rw[List.take_add_one,zm h,ze,zm h];rfl
theorem stp_eq {x y:Stp} (h:(!((decide ((Prod.fst x)=(Prod.fst y)))&&(decide ((Prod.snd x)=(Prod.snd y)))))=false):x=y:=by
 simp only[Bool.not_eq_false',zj,zf] at h
 exact Prod.ext h.1 h.2
theorem stp_ne {x y:Stp} (h:(!((decide ((Prod.fst x)=(Prod.fst y)))&&(decide ((Prod.snd x)=(Prod.snd y)))))=true):¬x=y:=by
 rintro rfl
 simp at h
end Go.Lens.Tm
end
section
namespace Go.Lens.Tm
open Go.Lens.Tb Go.Proofs
variable [Lz]
set_option maxHeartbeats 4000000
set_option maxRecDepth 100000
attribute [local irreducible] TK PK T RG EfR Body CG
theorem by176:ty176.info.bytes=24:=by kernel_rfl
theorem fa81_0:fadQ tab 81 0=some 0:=by kernel_rfl
theorem fa81_2:fadQ tab 81 2=some 2:=by kernel_rfl
theorem fa81_3:fadQ tab 81 3=some 3:=by kernel_rfl
theorem in176:tab.info? 176=some ty176.info:=by kernel_rfl
theorem sz164:szT tab 164=some 2:=by kernel_rfl
theorem sz176:szT tab 176=some 2:=by kernel_rfl
theorem un86:tab.underlying 86=some (.slice 164):=by kernel_rfl
theorem un90:tab.underlying 90=some (.slice 176):=by kernel_rfl
theorem fq176:flatEq tab 176=some [.int (.i64),.string]:=by kernel_rfl
theorem w181 (b:Bool) (e:Int):CKa 181 [vB b,vI e] (vI (qF b e)):=by
 refine cG qf181 Z (nB Z) Z (Cb Z Z (fun h1=>?_) (fun h1=>?_))
 ·exact Rt Z (leaf (val0:=vI e) (by kernel_rfl) (li (by subst h1;rfl)))
 exact Rt Z (leaf (val0:=vI 0) (by kernel_rfl) (li (by subst h1;rfl)))
theorem w182 (n low high:Int):CKa 182 [vI n,vI low,vI high] (vI (qG n low high)):=by
 exact cG qf182 Z (nB Z) Z (Eg Z Z (fun hc=>B.move Z) Z (Eg Z Z (fun hc=>B.move Z) Z (Eg Z Z (fun hc=>B.gtr (qy Z hc) (qy Z hc)) Z (E Z (B.pick Z Z Z Z (gdB Z) (q7 _)) (C Z (w181 (bif (decide (n<low)) then true else (decide (high<n))) 3) Z Z Z (Rt Z (leaf (val0:=vI (qF (bif (decide (n<low)) then true else (decide (high<n))) 3)) (by kernel_rfl) (li (by simp only[qG,Zw,jA])))))))))
theorem w180 (l:List Int) (hl:l.length<=1000000000000000):CKa 180 [vL eI l] (vI (qP l)):=by
 refine cG qf180 Z (nB Z) Z (E Z (B.jh Z un289) (l1 (fun (k:Nat)=>[(5,vL eI l),(6,vI l.length),(7,vI k)]) (fun _=>[]) (fun k=>k<=l.length/\qP l=qP (List.drop k l)) (fun k=>l.length-k) 0 Z ?_ (sb Z Z Z) ?_))
 · exact⟨zq _,rfl⟩
 intro k hI0
 refine Cp Z Z (fun h1=>?_) (fun h1=>?_)
 ·refine E Z (B.idx (z:=0) (i:=k) Z Z un289 sz34 (fun _=>rfl) Z (by omega)) (Cp Z Z (fun h2=>?_) (fun h2=>?_))
  ·exact Rt Z (leaf (val0:=vI (l.getD k 0)) (by kernel_rfl) (li (by (rw[hI0.2,drop_at l k 0 (by omega),qP,if_neg (by omega)]))))
  refine E Z (B.add Z Z (by unfold R64;omega)) (pk Z (L1 (k+1) ?_ ?_ (sb Z Z Z)))
  · (refine⟨by omega,?_⟩;rw[hI0.2,drop_at l k 0 (by omega),qP,if_pos (by omega)])
  · omega
 exact Rt Z (leaf (val0:=vI 0) (by kernel_rfl) (li (by (rw[hI0.2,zX (by omega)];rfl))))
theorem w251 (l:List (List UInt8)) (n:List UInt8) (hl:l.length<=1000000000000000):CKa 251 [vL eN l,vS (bsO n)] (vI (kI (fun y=>decide (n=y)) l)):=by
 refine cG qf251 Z (nB Z) Z (E Z (B.jh Z ji) (l1 (fun (k:Nat)=>[(0,vL eN l),(1,vS (bsO n)),(7,vI l.length),(8,vI k)]) (fun _=>[]) (fun k=>k<=l.length/\∀ j,j<k->decide (n=List.getD l j [])=false) (fun k=>l.length-k) 0 Z ?_ (sb Z Z Z) ?_))
 · exact⟨zq _,fun j hj=>by omega⟩
 intro k hI0
 refine Cp Z Z (fun h1=>?_) (fun h1=>?_)
 ·refine E Z (B.idx (z:=[]) (i:=k) Z Z ji sz9 (fun _=>rfl) Z (by omega)) (E Z (B.seqB (a:=n) (b:=(l.getD k [])) Z Z) (Cp Z Z (fun h2=>?_) (fun h2=>?_)))
  ·exact Rt Z (leaf (val0:=vI k) (by kernel_rfl) (li (by exact (Za (p:=(fun y=>decide (n=y))) (l:=l) (z:=[]) k (by omega) hI0.2 (zl h2)).symm)))
  refine E Z (B.add Z Z (by unfold R64;omega)) (pk Z (L1 (k+1) ?_ ?_ (sb Z Z Z)))
  · (refine⟨by omega,fun j hj=>?_⟩;rcases zy.1 hj with h|h;exact hI0.2 j h;subst h;exact zk h2)
  · omega
 exact Rt Z (leaf (val0:=vI (-1)) (by kernel_rfl) (li (by exact (kG (p:=(fun y=>decide (n=y))) (l:=l) (z:=[]) fun j hj=>hI0.2 j (by omega)).symm)))
theorem w179 (l:List (List UInt8)) (n:List UInt8) (hl:l.length<=1000000000000000):CKa 179 [vL eN l,vS (bsO n)] (vB (List.any l (fun y=>decide (n=y)))):=by
 exact cG qf179 Z (nB Z) Z (C Z (w251 l n (by omega)) Z Z Z (Rt Z (leaf (val0:=vB (decide (0<=(kI (fun y=>decide (n=y)) l)))) (by kernel_rfl) (lb (by exact j5 l)))))
theorem w123 (s:LSt):CKa 123 [.pv (gS s)] (vI (chkSt s)):=by
 refine cG qf123 Z (nB Z) Z (E Z (B.jj (val:=.pv (.slice (List.map eN [[105,100,108,101],[111,112,101,110],[99,108,111,115,101,100],[115,97,102,101]]))) Z (fun l=>Frz.arr l _ _ _ _ _) Z) (C Z (w179 [[105,100,108,101],[111,112,101,110],[99,108,111,115,101,100],[115,97,102,101]] s.1 (nB Z)) Z Z Z (Eg Z Z (fun hc=>B.Z9 Z fa81_0 Z) Z (Eg Z Z (fun hc=>B.jP (qy Z hc) Z Z ag9 sz9 Z) Z (Eg Z Z (fun hc=>B.sneB (a:=s.1) (b:=[99,108,111,115,101,100]) (qy Z hc) Z) Z (E Z (B.pick Z Z Z (gdB Z) Z (qJ _)) (Eg Z Z (fun hc=>B.Z9 Z fa81_2 Z) Z (Eg Z Z (fun hc=>B.jP (qy Z hc) Z Z ag4 sz4 Z) Z (Eg Z Z (fun hc=>B.move (qy Z hc)) Z (Eg Z Z (fun hc=>B.Z9 Z fa81_0 Z) Z (Eg Z Z (fun hc=>B.jP (qy Z hc) Z Z ag9 sz9 Z) Z (Eg Z Z (fun hc=>B.seqB (a:=s.1) (b:=[99,108,111,115,101,100]) (qy Z hc) Z) Z (Eg Z Z (fun hc=>B.pick (qy Z hc) Z Z (gdB Z) Z (kr hc)) Z ?_)))))))))))))
 refine E Z (B.pick Z Z Z Z (gdB Z) (q7 _)) (Eg Z Z (fun hc=>B.Z9 Z fa81_3 Z) Z (Eg Z Z (fun hc=>B.jP (qy Z hc) Z Z ag4 sz4 Z) Z (Eg Z Z (fun hc=>B.move (qy Z hc)) Z (Eg Z Z (fun hc=>B.Z9 Z fa81_0 Z) Z (Eg Z Z (fun hc=>B.jP (qy Z hc) Z Z ag9 sz9 Z) Z (Eg Z Z (fun hc=>B.seqB (a:=s.1) (b:=[111,112,101,110]) (qy Z hc) Z) Z (Eg Z Z (fun hc=>B.move (qy Z hc)) Z (Eg Z Z (fun hc=>B.Z9 Z fa81_0 Z) Z (Eg Z Z (fun hc=>B.jP (qy Z hc) Z Z ag9 sz9 Z) Z (Eg Z Z (fun hc=>B.seqB (a:=s.1) (b:=[99,108,111,115,101,100]) (qy Z hc) Z) Z (Eg Z Z (fun hc=>B.pick (qy Z hc) Z Z Z (gdB Z) (pick_or2 hc)) Z (Eg Z Z (fun hc=>B.pick (qy Z hc) Z Z (gdB Z) Z (kr hc)) Z (E Z (B.pick Z Z Z Z (gdB Z) (q7 _)) ?_)))))))))))))
 exact C Z (w181 (!(List.any [[105,100,108,101],[111,112,101,110],[99,108,111,115,101,100],[115,97,102,101]] (fun y=>decide (s.1=y)))) 13) Z Z Z (C Z (w182 s.2.1 0 2) Z Z Z (C Z (w181 (bif (bif (bif (decide (0<s.2.1)) then (decide (s.1≠[99,108,111,115,101,100])) else false) then true else (bif s.2.2.1 then (decide (s.1=[99,108,111,115,101,100])) else false)) then true else (bif s.2.2.2 then (bif (decide (s.1=[111,112,101,110])) then true else (decide (s.1=[99,108,111,115,101,100]))) else false)) 18) Z Z Z (E Z (B.jj (val:=.pv (.slice (List.map eI [(qF (!(List.any [[105,100,108,101],[111,112,101,110],[99,108,111,115,101,100],[115,97,102,101]] (fun y=>decide (s.1=y)))) 13),(qG s.2.1 0 2),(qF (bif (bif (bif (decide (0<s.2.1)) then (decide (s.1≠[99,108,111,115,101,100])) else false) then true else (bif s.2.2.1 then (decide (s.1=[99,108,111,115,101,100])) else false)) then true else (bif s.2.2.2 then (bif (decide (s.1=[111,112,101,110])) then true else (decide (s.1=[99,108,111,115,101,100]))) else false)) 18)]))) Z (fun l=>Frz.arr l _ _ _ _ _) Z) (C Z (w180 [(qF (!(List.any [[105,100,108,101],[111,112,101,110],[99,108,111,115,101,100],[115,97,102,101]] (fun y=>decide (s.1=y)))) 13),(qG s.2.1 0 2),(qF (bif (bif (bif (decide (0<s.2.1)) then (decide (s.1≠[99,108,111,115,101,100])) else false) then true else (bif s.2.2.1 then (decide (s.1=[99,108,111,115,101,100])) else false)) then true else (bif s.2.2.2 then (bif (decide (s.1=[111,112,101,110])) then true else (decide (s.1=[99,108,111,115,101,100]))) else false)) 18)] (nB Z)) Z Z Z (Dr Z (by kernel_rfl) (Rt Z (leaf (val0:=vI (qP [(qF (!(List.any [[105,100,108,101],[111,112,101,110],[99,108,111,115,101,100],[115,97,102,101]] (fun y=>decide (s.1=y)))) 13),(qG s.2.1 0 2),(qF (bif (bif (bif (decide (0<s.2.1)) then (decide (s.1≠[99,108,111,115,101,100])) else false) then true else (bif s.2.2.1 then (decide (s.1=[99,108,111,115,101,100])) else false)) then true else (bif s.2.2.2 then (bif (decide (s.1=[111,112,101,110])) then true else (decide (s.1=[99,108,111,115,101,100]))) else false)) 18)])) (by kernel_rfl) (li (by exact st_one s)))))))))
theorem w51 (l:List Stp) (hl:l.length*24<=140737488355328):CKa 51 [vL eP l] (vL eP l):=by
 refine cG qf51 Z (nB Z) Z (E Z (B.j8 (enc:=eP) Z) (E Z (B.adopt 4 2 176 Z Z) (E Z (B.jh Z un86) (l3 (fun (k:Nat) (v:Nat) (out:List Stp)=>[(3,.aref 4 v),(6,vL eP l),(7,vI l.length),(8,vI k)]) (fun _ v out=>[(4,.arr v 2 176 (List.map eP out))]) (fun k _ out=>k<=l.length/\out=List.take k l) (fun k _ _=>l.length-k) 0 0 [] Z ?_ (sb Z Z Z) ?_))))
 · exact⟨zq _,rfl⟩
 intro k v out hI0
 have hol:out.length<=k:=by rw[hI0.2,zn];omega
 refine Cp Z Z (fun h1=>?_) (fun h1=>?_)
 ·refine E Z (B.idx (z:=(0,[])) (i:=k) Z Z un86 sz164 (fun _=>rfl) Z (by omega)) ?_
  refine E Z (B.jj (val:=.pv (.slice (List.map eP [(l.getD k (0,[]))]))) Z (fun l=>Frz.arr l _ _ _ _ _) Z) ?_
  refine E Z (B.append Z Z Z un90 in176 Z (fun _=>rfl) by176 (by (simp only[za,zb,zd,zn];omega))) ?_
  refine E Z (B.add Z Z (by unfold R64;omega)) ?_
  refine pk Z (L3 (k+1) (v+1) (out++[(l.getD k (0,[]))]) ?_ ?_ (sb Z Z Z))
  · (refine⟨by omega,?_⟩;rw[hI0.2];exact (take_stp l k (by omega)).symm)
  · omega
 exact Fz 7 3 Z Z Z (Rt Z (leaf (val0:=vL eP out) (by kernel_rfl) (lsl (by rw[hI0.2,zx (by omega)]))))
theorem w50 (a b:List Stp) (hl:a.length<=1000000000000000):CKa 50 [vL eP a,vL eP b] (vB (decide (a=b))):=by
 refine cG qf50 Z (nB Z) Z (E Z (B.jh Z un90) (E Z (B.jh Z un90) (Cp Z Z (fun h1=>?_) (fun h1=>?_))))
 ·exact Rt Z (leaf (val0:=vB false) (by kernel_rfl) (lb (by exact (zk fun e=>by subst e;omega).symm)))
 refine l1 (fun (k:Nat)=>[(0,vL eP a),(1,vL eP b),(5,vI k)]) (fun _=>[]) (fun k=>k<=a.length/\a.length=b.length/\∀ j,j<k->List.getD a j (0,[])=List.getD b j (0,[])) (fun k=>a.length-k) 0 Z ?_ (sb Z Z Z) ?_
 · exact⟨zq _,by omega,fun j hj=>by omega⟩
 intro k hI0
 refine E Z (B.jh Z un90) (Cp Z Z (fun h2=>?_) (fun h2=>?_))
 ·refine E Z (B.idx (z:=(0,[])) (i:=k) Z Z un90 sz176 (fun _=>rfl) Z (by omega)) (E Z (B.idx (z:=(0,[])) (i:=k) Z Z un90 sz176 (fun _=>rfl) Z (by omega)) (E Z (B.stqN Z Z fq176 (Zj eqv_i (eqv_last eqv_s))) (Dr Z (by kernel_rfl) (Cb Z Z (fun h3=>?_) (fun h3=>?_)))))
  ·exact Rt Z (leaf (val0:=vB false) (by kernel_rfl) (lb (by exact (zk fun e=>by subst e;exact stp_ne h3 Z).symm)))
  refine E Z (B.add Z Z (by unfold R64;omega)) (pk Z (L1 (k+1) ?_ ?_ (sb Z Z Z)))
  · (refine⟨by omega,hI0.2.1,fun j hj=>?_⟩;rcases zy.1 hj with h|h;exact hI0.2.2 j h;subst h;exact stp_eq h3)
  · omega
 exact Rt Z (leaf (val0:=vB true) (by kernel_rfl) (lb (by exact (zl (eq_getD (0,[]) hI0.2.1 fun j hj=>hI0.2.2 j (by omega))).symm)))
end Go.Lens.Tm
end
