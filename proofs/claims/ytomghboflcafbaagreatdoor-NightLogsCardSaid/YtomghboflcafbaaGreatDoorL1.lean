/- A part of the proof that NightLogsCardSaid holds, without conditions. -/
import Derived.Test.YtomghboflcafbaaGreatDoorS3
import Derived.Test.YtomghboflcafbaaGreatDoorS4
import Derived.Laws.RangeAny
import Derived.Test.YtomghboflcafbaaGreatDoorS10
import Derived.Lib.Bytealg
import Derived.Lib.ItoaLen
import Derived.Lib.AtoiAllCases
import Derived.Lib.AtoiTie
import Derived.Shelf.Strings.OnBuilder
import Derived.Test.YtomghboflcafbaaGreatDoorProg
set_option linter.unusedVariables false
set_option linter.unusedSimpArgs false
section
namespace Go.Lens
set_option linter.unusedSectionVars false
variable [Lz]
theorem bsO_size (a:List UInt8):(bsO a).size=a.length:=rfl
theorem bsO_toList (a:List UInt8):(bsO a).toList=a:=by rw[ByteArray.toList_eq];rfl
theorem bsO_append (a b:List UInt8):bsO a++bsO b=bsO (a++b):=by
 apply ByteArray.ext
 apply Array.toList_inj.1
 simp[bsO]
theorem bsO_extract (a:List UInt8) (i j:Nat):(bsO a).extract i j=bsO ((a.take j).drop i):=by
 apply ByteArray.ext
 apply Array.toList_inj.1
 simp[bsO,ByteArray.data_extract,List.drop_take]
def ltS (a b:List UInt8):Bool:=Op.bytesLess a b
def leS (a b:List UInt8):Bool:=Op.bytesLess a b||a==b
section
variable {P:Program} {Y:Tab} [TabOk P Y] {nb:Nat} {s:St} {dst:Option Tmp} {ty u:TypeId} {pos:String} {af:Array Edge} {gd:Option (Nat×Bool)} {t:TypeId} {x y z:Operand} {a b:List UInt8}
theorem B.catB (hx:ev1 s x=lit (.string (bsO a))) (hy:ev1 s y=lit (.string (bsO b))) (h:a.length+b.length≤9223372036854775807):Body P Y nb s ⟨dst,.binOp .add t x y u,ty,pos,af,gd⟩ (lit (.string (bsO (a++b)))) [] []:=by
 refine B.bin hx hy ?_
 show qE (some (decide ((bsO a).size+(bsO b).size≤9223372036854775807),lit (.string (bsO a++bsO b))))=_
 have:decide ((bsO a).size+(bsO b).size≤9223372036854775807)=true:=decide_eq_true h
 rw[this,bsO_append];rfl
theorem B.seqB (hx:ev1 s x=lit (.string (bsO a))) (hy:ev1 s y=lit (.string (bsO b))):Body P Y nb s ⟨dst,.binOp .eql t x y u,ty,pos,af,gd⟩ (lit (.bool (decide (a=b)))) [] []:=by
 have:=B.seql (P:=P) (Y:=Y) (nb:=nb) (s:=s) (dst:=dst) (ty:=ty) (u:=u) (pos:=pos) (af:=af) (gd:=gd) (t:=t) hx hy
 rwa [show decide (bsO a=bsO b)=decide (a=b) by rw[Bool.eq_iff_iff];simp[bsO_inj]] at this
theorem B.sneB (hx:ev1 s x=lit (.string (bsO a))) (hy:ev1 s y=lit (.string (bsO b))):Body P Y nb s ⟨dst,.binOp .neq t x y u,ty,pos,af,gd⟩ (lit (.bool (decide (a≠b)))) [] []:=by
 have:=B.sneq (P:=P) (Y:=Y) (nb:=nb) (s:=s) (dst:=dst) (ty:=ty) (u:=u) (pos:=pos) (af:=af) (gd:=gd) (t:=t) hx hy
 rwa [show decide (bsO a≠bsO b)=decide (a≠b) by rw[Bool.eq_iff_iff];simp[bsO_inj]] at this
theorem B.sleB (hx:ev1 s x=lit (.string (bsO a))) (hy:ev1 s y=lit (.string (bsO b))):Body P Y nb s ⟨dst,.binOp .leq t x y u,ty,pos,af,gd⟩ (lit (.bool (leS a b))) [] []:=by
 refine B.bin hx hy ?_
 show qE (some (true,lit (.bool (Op.bytesLess (bsO a).toList (bsO b).toList||(bsO a).toList==(bsO b).toList))))=_
 rw[bsO_toList,bsO_toList];rfl
theorem B.bqB {p q:Bool} (hx:ev1 s x=lit (.bool p)) (hy:ev1 s y=lit (.bool q)) (und:Y.underlying t=some .bool):Body P Y nb s ⟨dst,.binOp .eql t x y u,ty,pos,af,gd⟩ (lit (.bool (p==q))) [] []:=by
 refine B.bin hx hy ?_
 have h3:binQ Y .eql t (lit (.bool p)) (lit (.bool q))=some (true,lit (.bool (p==q))):=by
  simp only[binQ,lit,und]
 show qE (binW Y .eql t (lookM []) (isNilC y) (lit (.bool p)) (lit (.bool q)))=_
 have h4:binW Y .eql t (lookM []) (isNilC y) (lit (.bool p)) (lit (.bool q))=some (true,lit (.bool (p==q))):=by
  unfold binW
  simp only[lit] at h3 ⊢
  simp only[nilQ,nilKind,samePQ,h3]
 rw[h4];rfl
theorem B.lenB {at':TypeId} (hx:ev1 s x=lit (.string (bsO a))) (hu:Y.underlying at'=some .string):Body P Y nb s ⟨dst,.call ⟨.builtin .len,⟨[x]⟩,⟨[at']⟩⟩,ty,pos,af,gd⟩ (lit (.int .i64 ((a.length:Nat):Int))) [] []:=B.lenS hx hu
theorem B.slHB {hi:Operand} {k:IntKind} {n:Int} {j:Nat} (hx:ev1 s x=lit (.string (bsO a))) (hy:ev1 s hi=lit (.int k n)) (hu:Y.underlying t=some .string) (hn:n=(j:Int)) (hj:j≤a.length) :
 Body P Y nb s ⟨dst,.slice t x none (some hi) none,ty,pos,af,gd⟩ (lit (.string (bsO (a.take j)))) [] []:=by
 refine B.pure (lo:=0) (nm:=0) (O0_ok P) ?_ ?_
 ·intro z hz
  have:z=x∨z=hi:=by simpa [Op.operands] using hz
  rcases this with rfl|rfl
  ·rw[hx];rfl
  ·rw[hy];rfl
 ·have e1:evU (tmpsOf [x,hi]) s x=_:=(evU_own (by simp)).trans hx
  have e2:evU (tmpsOf [x,hi]) s hi=_:=(evU_own (by simp)).trans hy
  have hv:effV Y 0 dst (.slice t x none (some hi) none) (evU (tmpsOf [x,hi]) s) (lookM [])=liftQ (sliceW Y t (lookM []) (evU (tmpsOf [x,hi]) s x) none (some (evU (tmpsOf [x,hi]) s hi)) none):=rfl
  show (match effV Y 0 dst (.slice t x none (some hi) none) (evU (tmpsOf [x,hi]) s) (lookM []) with|some ⟨true,v,m⟩=>some (v,m)|_=>none)=_
  rw[hv,e1,e2]
  have hq:sliceW Y t (lookM []) (lit (.string (bsO a))) none (some (lit (.int k n))) none=some (true,lit (.string (bsO (a.take j)))):=by
   show sliceQ Y t (lookM []) (lit (.string (bsO a))) none (some (lit (.int k n))) none=_
   unfold sliceQ lit
   simp only[hu,bound,Option.getD_some,Option.getD_none]
   subst hn
   have:decide ((0:Int)≤0∧(0:Int)≤(j:Int)∧(j:Int)≤((bsO a).size:Int))=true:=decide_eq_true ⟨by omega,by omega,by rw[bsO_size];omega⟩
   rw[this,Int.toNat_natCast,bsO_extract];rfl
  rw[hq];rfl
theorem B.slLB {lo:Operand} {k:IntKind} {n:Int} {i:Nat} (hx:ev1 s x=lit (.string (bsO a))) (hy:ev1 s lo=lit (.int k n)) (hu:Y.underlying t=some .string) (hn:n=(i:Int)) (hi:i≤a.length) :
 Body P Y nb s ⟨dst,.slice t x (some lo) none none,ty,pos,af,gd⟩ (lit (.string (bsO (a.drop i)))) [] []:=by
 refine B.pure (lo:=0) (nm:=0) (O0_ok P) ?_ ?_
 ·intro z hz
  have:z=x∨z=lo:=by simpa [Op.operands] using hz
  rcases this with rfl|rfl
  ·rw[hx];rfl
  ·rw[hy];rfl
 ·have e1:evU (tmpsOf [x,lo]) s x=_:=(evU_own (by simp)).trans hx
  have e2:evU (tmpsOf [x,lo]) s lo=_:=(evU_own (by simp)).trans hy
  have hv:effV Y 0 dst (.slice t x (some lo) none none) (evU (tmpsOf [x,lo]) s) (lookM [])=liftQ (sliceW Y t (lookM []) (evU (tmpsOf [x,lo]) s x) (some (evU (tmpsOf [x,lo]) s lo)) none none):=by
   show (match frzU (lookM []) (refsOf (evU (tmpsOf [x,lo]) s) [x]) with
    | []=>stepV Y 0 dst (.slice t x (some lo) none none) (evU (tmpsOf [x,lo]) s) (lookM []) (lookM [])
    | fz=>match stepV Y 0 dst (.slice t x (some lo) none none) (evU (tmpsOf [x,lo]) s) (upd fz (lookM [])) (upd fz (lookM [])) with
     | some ⟨s,v,ms⟩=>some ⟨s,v,mrg ms fz⟩
     | none=>none)=_
   have hrf:refsOf (evU (tmpsOf [x,lo]) s) [x]=[]:=by simp[refsOf,e1,lit,DV.refs]
   rw[hrf];rfl
  show (match effV Y 0 dst (.slice t x (some lo) none none) (evU (tmpsOf [x,lo]) s) (lookM []) with|some ⟨true,v,m⟩=>some (v,m)|_=>none)=_
  rw[hv,e1,e2]
  have hq:sliceW Y t (lookM []) (lit (.string (bsO a))) (some (lit (.int k n))) none none=some (true,lit (.string (bsO (a.drop i)))):=by
   show sliceQ Y t (lookM []) (lit (.string (bsO a))) (some (lit (.int k n))) none none=_
   unfold sliceQ lit
   simp only[hu,bound,Option.getD_some,Option.getD_none]
   subst hn
   have:decide ((0:Int)≤(i:Int)∧(i:Int)≤((bsO a).size:Int)∧((bsO a).size:Int)≤((bsO a).size:Int))=true:=decide_eq_true ⟨by omega,by rw[bsO_size];omega,by omega⟩
   rw[this,Int.toNat_natCast,Int.toNat_natCast,bsO_extract,bsO_size,List.take_of_length_le (Nat.le_refl _)]
  rw[hq];rfl
theorem B.slMB {lo hi:Operand} {k k':IntKind} {n m:Int} {i j:Nat} (hx:ev1 s x=lit (.string (bsO a))) (hy:ev1 s lo=lit (.int k n)) (hz:ev1 s hi=lit (.int k' m)) (hu:Y.underlying t=some .string) (hn:n=(i:Int)) (hm:m=(j:Int)) (hij:i≤j) (hj:j≤a.length) :
 Body P Y nb s ⟨dst,.slice t x (some lo) (some hi) none,ty,pos,af,gd⟩ (lit (.string (bsO ((a.take j).drop i)))) [] []:=by
 refine B.pure (lo:=0) (nm:=0) (O0_ok P) ?_ ?_
 ·intro z hz'
  have:z=x∨z=lo∨z=hi:=by simpa [Op.operands] using hz'
  rcases this with rfl|rfl|rfl
  ·rw[hx];rfl
  ·rw[hy];rfl
  ·rw[hz];rfl
 ·have e1:evU (tmpsOf [x,lo,hi]) s x=_:=(evU_own (by simp)).trans hx
  have e2:evU (tmpsOf [x,lo,hi]) s lo=_:=(evU_own (by simp)).trans hy
  have e3:evU (tmpsOf [x,lo,hi]) s hi=_:=(evU_own (by simp)).trans hz
  have hv:effV Y 0 dst (.slice t x (some lo) (some hi) none) (evU (tmpsOf [x,lo,hi]) s) (lookM [])=liftQ (sliceW Y t (lookM []) (evU (tmpsOf [x,lo,hi]) s x) (some (evU (tmpsOf [x,lo,hi]) s lo)) (some (evU (tmpsOf [x,lo,hi]) s hi)) none):=by
   show (match frzU (lookM []) (refsOf (evU (tmpsOf [x,lo,hi]) s) [x]) with
    | []=>stepV Y 0 dst (.slice t x (some lo) (some hi) none) (evU (tmpsOf [x,lo,hi]) s) (lookM []) (lookM [])
    | fz=>match stepV Y 0 dst (.slice t x (some lo) (some hi) none) (evU (tmpsOf [x,lo,hi]) s) (upd fz (lookM [])) (upd fz (lookM [])) with
     | some ⟨s,v,ms⟩=>some ⟨s,v,mrg ms fz⟩
     | none=>none)=_
   have hrf:refsOf (evU (tmpsOf [x,lo,hi]) s) [x]=[]:=by simp[refsOf,e1,lit,DV.refs]
   rw[hrf];rfl
  show (match effV Y 0 dst (.slice t x (some lo) (some hi) none) (evU (tmpsOf [x,lo,hi]) s) (lookM []) with|some ⟨true,v,m⟩=>some (v,m)|_=>none)=_
  rw[hv,e1,e2,e3]
  have hq:sliceW Y t (lookM []) (lit (.string (bsO a))) (some (lit (.int k n))) (some (lit (.int k' m))) none=some (true,lit (.string (bsO ((a.take j).drop i)))):=by
   show sliceQ Y t (lookM []) (lit (.string (bsO a))) (some (lit (.int k n))) (some (lit (.int k' m))) none=_
   unfold sliceQ lit
   simp only[hu,bound,Option.getD_some]
   subst hn;subst hm
   have:decide ((0:Int)≤(i:Int)∧(i:Int)≤(j:Int)∧(j:Int)≤((bsO a).size:Int))=true:=decide_eq_true ⟨by omega,by omega,by rw[bsO_size];omega⟩
   rw[this,Int.toNat_natCast,Int.toNat_natCast,bsO_extract]
  rw[hq];rfl
end
end Go.Lens
end
section
namespace Go.Lens.Tb
open Go.Proofs
variable [Lz]
set_option linter.unusedSectionVars false
set_option maxRecDepth 100000
attribute [local irreducible] TK PK T RG EfR Body CG
theorem ag3:aggT tab 3=some false:=by kernel_rfl
theorem sz3:szT tab 3=some 1:=by kernel_rfl
theorem sz34:szT tab 34=some 1:=by kernel_rfl
theorem un22:tab.underlying 22=some (.slice 3):=by kernel_rfl
theorem un289:tab.underlying 289=some (.slice 34):=by kernel_rfl
theorem w101 (b:Bool) (e:Int):CallOk Tryz.prog 101 [vB b,vI e] (lookM []) (vI (whenF b e)) []:=by
 refine cG qf101 rfl (nB rfl) rfl (Cb rfl rfl (fun h1=>?_) (fun h1=>?_))
 ·exact Rt rfl (leaf (val0:=vI e) (by kernel_rfl) (li (by subst h1;rfl)))
 ·exact Rt rfl (leaf (val0:=vI 0) (by kernel_rfl) (li (by subst h1;rfl)))
theorem w28 (b:Bool) (e:Int):CallOk Tryz.prog 28 [vB b,vI e] (lookM []) (vI (whenF b e)) []:=by
 refine cG qf28 rfl (nB rfl) rfl (Cb rfl rfl (fun h1=>?_) (fun h1=>?_))
 ·exact Rt rfl (leaf (val0:=vI e) (by kernel_rfl) (li (by subst h1;rfl)))
 ·exact Rt rfl (leaf (val0:=vI 0) (by kernel_rfl) (li (by subst h1;rfl)))
theorem w93 (n low high:Int):CallOk Tryz.prog 93 [vI n,vI low,vI high] (lookM []) (vB (outF n low high)) []:=by
 exact cG qf93 rfl (nB rfl) rfl (Eg rfl rfl (fun hc=>B.move rfl) rfl (Eg rfl rfl (fun hc=>B.move rfl) rfl (Eg rfl rfl (fun hc=>B.gtr (ev1_gd rfl hc) (ev1_gd rfl hc)) rfl (E rfl (B.pick rfl rfl rfl rfl (gdB rfl) (pick_or _)) (Rt rfl (leaf (val0:=vB (bif (decide (n<low)) then true else (decide (high<n)))) (by kernel_rfl) (lb (by simp only[outF,bif_or]))))))))
theorem w99 (n low high:Int):CallOk Tryz.prog 99 [vI n,vI low,vI high] (lookM []) (vI (withinF n low high)) []:=by
 exact cG qf99 rfl (nB rfl) rfl (Eg rfl rfl (fun hc=>B.move rfl) rfl (Eg rfl rfl (fun hc=>B.move rfl) rfl (Eg rfl rfl (fun hc=>B.gtr (ev1_gd rfl hc) (ev1_gd rfl hc)) rfl (E rfl (B.pick rfl rfl rfl rfl (gdB rfl) (pick_or _)) (C rfl (w101 (bif (decide (n<low)) then true else (decide (high<n))) 3) rfl rfl rfl (Rt rfl (leaf (val0:=vI (whenF (bif (decide (n<low)) then true else (decide (high<n))) 3)) (by kernel_rfl) (li (by simp only[withinF,outF,bif_or])))))))))
theorem w100 (l:List Int) (hl:l.length≤1000000000000000):CallOk Tryz.prog 100 [vL eI l] (lookM []) (vI (firstF l)) []:=by
 refine cG qf100 rfl (nB rfl) rfl (E rfl (B.lenL rfl un289) (l1 (fun (k:Nat)=>[(5,vL eI l),(6,vI l.length),(7,vI k)]) (fun _=>[]) (fun k=>k≤l.length∧firstF l=firstF (List.drop k l)) (fun k=>l.length-k) 0 rfl ?_ (sb rfl rfl rfl) ?_))
 · exact⟨Nat.zero_le _,rfl⟩
 intro k hI0
 refine Cp rfl rfl (fun h1=>?_) (fun h1=>?_)
 ·refine E rfl (B.idx (z:=0) (i:=k) rfl rfl un289 sz34 (fun _=>rfl) rfl (by omega)) (Cp rfl rfl (fun h2=>?_) (fun h2=>?_))
  ·exact Rt rfl (leaf (val0:=vI (List.getD l k 0)) (by kernel_rfl) (li (by first|(rw[hI0.2,drop_at l k 0 (by omega),firstF,if_neg (by omega)])|(rw[hI0.2,List.drop_eq_nil_of_le (by omega)];rfl))))
  ·refine E rfl (B.add rfl rfl (by unfold R64;omega)) (pk rfl (L1 (k+1) ?_ ?_ (sb rfl rfl rfl)))
   · (refine⟨by omega,?_⟩;rw[hI0.2,drop_at l k 0 (by omega),firstF,if_pos (by omega)])
   · omega
 ·exact Rt rfl (leaf (val0:=vI 0) (by kernel_rfl) (li (by first|(rw[hI0.2,drop_at l k 0 (by omega),firstF,if_neg (by omega)])|(rw[hI0.2,List.drop_eq_nil_of_le (by omega)];rfl))))
theorem w25 (l:List Int) (hl:l.length≤1000000000000000):CallOk Tryz.prog 25 [vL eI l] (lookM []) (vI (firstF l)) []:=by
 refine cG qf25 rfl (nB rfl) rfl (E rfl (B.lenL rfl un22) (l1 (fun (k:Nat)=>[(5,vL eI l),(6,vI l.length),(7,vI k)]) (fun _=>[]) (fun k=>k≤l.length∧firstF l=firstF (List.drop k l)) (fun k=>l.length-k) 0 rfl ?_ (sb rfl rfl rfl) ?_))
 · exact⟨Nat.zero_le _,rfl⟩
 intro k hI0
 refine Cp rfl rfl (fun h1=>?_) (fun h1=>?_)
 ·refine E rfl (B.idx (z:=0) (i:=k) rfl rfl un22 sz3 (fun _=>rfl) rfl (by omega)) (Cp rfl rfl (fun h2=>?_) (fun h2=>?_))
  ·exact Rt rfl (leaf (val0:=vI (List.getD l k 0)) (by kernel_rfl) (li (by first|(rw[hI0.2,drop_at l k 0 (by omega),firstF,if_neg (by omega)])|(rw[hI0.2,List.drop_eq_nil_of_le (by omega)];rfl))))
  ·refine E rfl (B.add rfl rfl (by unfold R64;omega)) (pk rfl (L1 (k+1) ?_ ?_ (sb rfl rfl rfl)))
   · (refine⟨by omega,?_⟩;rw[hI0.2,drop_at l k 0 (by omega),firstF,if_pos (by omega)])
   · omega
 ·exact Rt rfl (leaf (val0:=vI 0) (by kernel_rfl) (li (by first|(rw[hI0.2,drop_at l k 0 (by omega),firstF,if_neg (by omega)])|(rw[hI0.2,List.drop_eq_nil_of_le (by omega)];rfl))))
end Go.Lens.Tb
end
section
namespace Go.Lens.Tb
set_option linter.unusedSectionVars false
theorem bnot_t {b:Bool} (h:(!b)=true):b=false:=by cases b<;>first|rfl|cases h
theorem bnot_f {b:Bool} (h:(!b)=false):b=true:=by cases b<;>first|rfl|cases h
def letterF (c:Int):Bool:=(decide (97≤c)&&decide (c≤122))||(decide (65≤c)&&decide (c≤90))
def nameAt (i:Nat) (c:Int):Bool:=letterF c||(!decide ((i:Int)=0)&&((decide (48≤c)&&decide (c≤57))||decide (c=95)))
def isNameF (s:ByteArray):Bool:=decide (1≤s.size)&&decide (s.size≤24)&&(List.range s.size).all fun i=>nameAt i (byteAt s i)
theorem nm8:∀ a b c d z e f g:Bool,(bif !(bif (bif a then b else false) then true else (bif c then d else false)) then (bif z then true else !(bif (bif e then f else false) then true else g)) else false)=!(((a&&b)||(c&&d))||(!z&&((e&&f)||g))):=by decide
theorem isName_no {s:ByteArray} (k:Nat) (hk:k<s.size) (h:nameAt k (byteAt s k)=false):isNameF s=false:=by
  unfold isNameF
  have:((List.range s.size).all fun i=>nameAt i (byteAt s i))=false:=by
    rw[List.all_eq_false]
    exact⟨k,List.mem_range.2 hk,by simp[h]⟩
  rw[this,Bool.and_false]
theorem isName_yes {s:ByteArray} (h1:1≤s.size) (h2:s.size≤24) (h:∀ j,j<s.size→nameAt j (byteAt s j)=true):isNameF s=true:=by
  unfold isNameF
  rw[decide_eq_true h1,decide_eq_true h2]
  simp only[Bool.true_and,List.all_eq_true,List.mem_range]
  exact h
theorem isName_len {s:ByteArray} (h:s.size<1∨24<s.size):isNameF s=false:=by
  unfold isNameF
  rcases h with h|h
  · rw[decide_eq_false (by omega)];simp
  · rw[decide_eq_false (p:=s.size≤24) (by omega)];simp
def findI {α:Type} (p:α→Bool):List α→Int
  | []=> -1
  | a::l=>bif p a then 0 else (bif decide (findI p l<0) then -1 else findI p l+1)
section
variable {α:Type} {p:α→Bool} {z:α}
theorem findI_none:∀ {l:List α},(∀ j,j<l.length→p (l.getD j z)=false)→findI p l= -1
  | [],_=>rfl
  | a::l,h=>by
    have h0:=h 0 (by simp)
    have h1:=findI_none (l:=l) fun j hj=>h (j+1) (by simpa using hj)
    simp only[List.getD_cons_zero] at h0
    simp[findI,h0,h1]
theorem findI_some:∀ {l:List α} (k:Nat),k<l.length→(∀ j,j<k→p (l.getD j z)=false)→p (l.getD k z)=true→findI p l=k
  | [],k,hk,_,_=>by simp at hk
  | a::l,0,_,_,h=>by
    simp only[List.getD_cons_zero] at h
    simp[findI,h]
  | a::l,k+1,hk,hj,h=>by
    have h0:=hj 0 (by omega)
    have h1:=findI_some (l:=l) k (by simpa using hk) (fun j hj'=>hj (j+1) (by omega)) h
    simp only[List.getD_cons_zero] at h0
    simp only[findI,h0,h1,cond_false]
    rw[decide_eq_false (by omega)];simp
theorem findI_nonneg:∀ (l:List α),decide (0≤findI p l)=l.any p
  | []=>rfl
  | a::l=>by
    have ih:=findI_nonneg l
    simp only[findI,List.any_cons]
    by_cases hp:p a=true
    · simp only[hp,cond_true,Bool.true_or];rfl
    · rw[Bool.not_eq_true] at hp
      simp only[hp,cond_false,Bool.false_or]
      rw[←ih]
      by_cases h:findI p l<0
      · rw[decide_eq_true h,decide_eq_false (p:=0≤findI p l) (by omega)];rfl
      · rw[decide_eq_false h,decide_eq_true (p:=0≤findI p l) (by omega)]
        exact decide_eq_true (by simp only[cond_false];omega)
end
theorem list_ext_getD {α:Type} {a b:List α} (z:α) (h1:a.length=b.length) (h2:∀ j,j<a.length→a.getD j z=b.getD j z):a=b:=by
  apply List.ext_getElem h1
  intro j hj hj'
  have:=h2 j hj
  simpa [List.getD_eq_getElem?_getD,hj,hj'] using this
theorem take_succ_at {α:Type} (l:List α) (k:Nat) (z:α) (h:k<l.length):l.take (k+1)=l.take k++[l.getD k z]:=by
  rw[List.take_add_one,List.getD_eq_getElem?_getD,List.getElem?_eq_getElem h];rfl
def inRangeF (t:Tgt):Bool:=!outF t.bright 1 1000&&!outF t.place 0 360&&!outF t.length 1 1440&&!outF t.from_ 0 1440&&!outF t.to 0 1440&&!outF t.limit 0 100
def chkNightF (start:Int) (W:List Int):Int:=bif outF start 0 1440 then 3 else bif decide (W.length=0) then 12 else bif decide (24<W.length) then 5 else bif W.any (fun x=>outF x 0 100) then 3 else 0
def chkOne (pre:List Tgt) (t:Tgt):Int:=bif !isNameF t.name then 8 else bif pre.any (fun o=>decide (o.name=t.name)) then 9 else bif !inRangeF t then 3 else 0
def chkGo:List Tgt→List Tgt→Int
  | _,[]=>0
  | pre,t::r=>if chkOne pre t=0 then chkGo (pre++[t]) r else chkOne pre t
def chkTgtsF (l:List Tgt):Int:=bif decide (32<l.length) then 5 else chkGo [] l
def ordOne (n:Int) (pre:List Int) (i:Int):Int:=bif outF i 0 (n-1) then 10 else bif pre.any (fun j=>decide (j=i)) then 9 else 0
def ordGo (n:Int):List Int→List Int→Int
  | _,[]=>0
  | pre,t::r=>if ordOne n pre t=0 then ordGo n (pre++[t]) r else ordOne n pre t
def chkOrdF (n:Int) (o:List Int):Int:=ordGo n [] o
def calmM (W:List Int) (lim b:Int) (n:Nat):Bool:=(List.range n).all fun j=>decide (W.getD ((b+(j:Int)) / 60).toNat 0≤lim)
def canF (W:List Int) (t:Tgt) (b:Int):Bool:=!(decide (b<t.from_))&&!(decide (t.to<b+t.length))&&!(decide (60*(W.length:Int)<b+t.length))&&calmM W t.limit b t.length.toNat
def searchF (p:Int→Bool) (b:Int):Nat→Int
  | 0=> -1
  | n+1=>bif p b then b else searchF p (b+1) n
def begF (W:List Int) (t:Tgt) (e:Int):Int:=searchF (canF W t) e (1441-e).toNat
def shortN (W:List Int):Bool:=decide ((W.length:Int)≤6)||(decide (24<(W.length:Int))&&decide ((W.length:Int)≤26))
def shortT (l:List Tgt) (k limit:Int):Bool:=bif ((decide (k<(l.length:Int))&&decide ((l.length:Int)≤limit))||decide (34<(l.length:Int))) then false else l.all fun t=>decide (t.name.size≤40)
def tlGo (W:List Int) (l:List Tgt):Option Tgt→Int→List Int→Option (List Int)
  | _,_,[]=>some []
  | prev,at_,i::r=>
    let t:=l.getD i.toNat default
    let b:=begF W t (match prev with|none=>at_|some p=>at_+apartF t.place p.place)
    if b<0 then none else (tlGo W l (some t) (b+t.length) r).map (b::·)
def tlF (start:Int) (W:List Int) (l:List Tgt) (order:List Int):Option (List Int):=tlGo W l none start order
end Go.Lens.Tb
end
section
namespace Go.Lens.Tb
open Go.Proofs
variable [Lz]
set_option linter.unusedSectionVars false
set_option maxRecDepth 100000
attribute [local irreducible] TK PK T RG EfR Body CG
theorem ag22:aggT tab 22=some false:=by kernel_rfl
theorem ag9:aggT tab 9=some false:=by kernel_rfl
theorem sz22:szT tab 22=some 1:=by kernel_rfl
theorem sz9:szT tab 9=some 1:=by kernel_rfl
theorem un9:tab.underlying 9=some (.string):=by kernel_rfl
theorem w94 (s:ByteArray):CallOk Tryz.prog 94 [vS s] (lookM []) (vB (isNameF s)) []:=by
 refine cG qf94 rfl (nB rfl) rfl (E rfl (B.lenS rfl un9) (Eg rfl rfl (fun hc=>B.move rfl) rfl (Eg rfl rfl (fun hc=>B.lenS (ev1_gd rfl hc) un9) rfl (Eg rfl rfl (fun hc=>B.gtr (ev1_gd rfl hc) rfl) rfl (E rfl (B.pick rfl rfl rfl rfl (gdB rfl) (pick_or _)) (Cb rfl rfl (fun h1=>?_) (fun h1=>?_)))))))
 ·exact Rt rfl (leaf (val0:=vB false) (by kernel_rfl) (lb (by first|(refine (isName_len ?_).symm;simp only[bif_or,Bool.or_eq_true,decide_eq_true_eq] at h1;omega)|(exact (isName_no k (by omega) (bnot_t ((nm8 _ _ _ _ _ _ _ _).symm.trans h3))).symm)|exact (isName_yes hI0.2.1 hI0.2.2.1 fun j hj=>hI0.2.2.2 j (by omega)).symm)))
 ·refine l1 (fun (k:Nat)=>[(0,vS s),(3,vI k)]) (fun _=>[]) (fun k=>k≤ByteArray.size s∧1≤ByteArray.size s∧ByteArray.size s≤24∧∀ j,j<k→nameAt j (byteAt s j)=true) (fun k=>ByteArray.size s-k) 0 rfl ?_ (sb rfl rfl rfl) ?_
  · (simp only[bif_or,Bool.or_eq_false_iff,decide_eq_false_iff_not] at h1;exact⟨by omega,by omega,by omega,fun j hj=>by omega⟩)
  intro k hI0
  refine E rfl (B.lenS rfl un9) (Cp rfl rfl (fun h2=>?_) (fun h2=>?_))
  ·refine E rfl (B.sidx (i:=k) rfl rfl un9 rfl (by omega)) (Eg rfl rfl (fun hc=>B.move rfl) rfl (Eg rfl rfl (fun hc=>B.leq (ev1_gd rfl hc) rfl) rfl (E rfl (B.pick rfl rfl rfl (gdB rfl) rfl (pick_and _)) (Eg rfl rfl (fun hc=>B.move rfl) rfl (Eg rfl rfl (fun hc=>B.geq (ev1_gd rfl hc) rfl) rfl (Eg rfl rfl (fun hc=>B.move (ev1_gd rfl hc)) rfl (Eg rfl rfl (fun hc=>B.move rfl) rfl (Eg rfl rfl (fun hc=>B.leq (ev1_gd rfl hc) rfl) rfl (Eg rfl rfl (fun hc=>B.pick (ev1_gd rfl hc) rfl rfl (gdB rfl) rfl (pick_and2 hc)) rfl (E rfl (B.pick rfl rfl rfl rfl (gdB rfl) (pick_or _)) (Eg rfl rfl (fun hc=>B.move rfl) rfl (Eg rfl rfl (fun hc=>B.eql (ev1_gd rfl hc) rfl) rfl (Eg rfl rfl (fun hc=>B.move (ev1_gd rfl hc)) rfl ?_)))))))))))))
   refine Eg rfl rfl (fun hc=>B.move rfl) rfl (Eg rfl rfl (fun hc=>B.geq (ev1_gd rfl hc) rfl) rfl (Eg rfl rfl (fun hc=>B.move (ev1_gd rfl hc)) rfl (Eg rfl rfl (fun hc=>B.move rfl) rfl (Eg rfl rfl (fun hc=>B.leq (ev1_gd rfl hc) rfl) rfl (Eg rfl rfl (fun hc=>B.pick (ev1_gd rfl hc) rfl rfl (gdB rfl) rfl (pick_and2 hc)) rfl (Eg rfl rfl (fun hc=>B.move (ev1_gd rfl hc)) rfl (Eg rfl rfl (fun hc=>B.move rfl) rfl (Eg rfl rfl (fun hc=>B.eql (ev1_gd rfl hc) rfl) rfl (Eg rfl rfl (fun hc=>B.pick (ev1_gd rfl hc) rfl rfl rfl (gdB rfl) (pick_or2 hc)) rfl (Eg rfl rfl (fun hc=>B.not (ev1_gd rfl hc)) rfl (Eg rfl rfl (fun hc=>B.pick (ev1_gd rfl hc) rfl rfl rfl (gdB rfl) (pick_or2 hc)) rfl (E rfl (B.pick rfl rfl rfl (gdB rfl) rfl (pick_and _)) (Cb rfl rfl (fun h3=>?_) (fun h3=>?_))))))))))))))
   ·exact Rt rfl (leaf (val0:=vB false) (by kernel_rfl) (lb (by first|(refine (isName_len ?_).symm;simp only[bif_or,Bool.or_eq_true,decide_eq_true_eq] at h1;omega)|(exact (isName_no k (by omega) (bnot_t ((nm8 _ _ _ _ _ _ _ _).symm.trans h3))).symm)|exact (isName_yes hI0.2.1 hI0.2.2.1 fun j hj=>hI0.2.2.2 j (by omega)).symm)))
   ·refine E rfl (B.add rfl rfl (by unfold R64;omega)) (pk rfl (L1 (k+1) ?_ ?_ (sb rfl rfl rfl)))
    · (refine⟨by omega,hI0.2.1,hI0.2.2.1,fun j hj=>?_⟩;rcases Nat.lt_succ_iff_lt_or_eq.1 hj with h|h;exact hI0.2.2.2 j h;subst h;exact bnot_f ((nm8 _ _ _ _ _ _ _ _).symm.trans h3))
    · omega
  ·exact Rt rfl (leaf (val0:=vB true) (by kernel_rfl) (lb (by first|(refine (isName_len ?_).symm;simp only[bif_or,Bool.or_eq_true,decide_eq_true_eq] at h1;omega)|(exact (isName_no k (by omega) (bnot_t ((nm8 _ _ _ _ _ _ _ _).symm.trans h3))).symm)|exact (isName_yes hI0.2.1 hI0.2.2.1 fun j hj=>hI0.2.2.2 j (by omega)).symm)))
end Go.Lens.Tb
end
section
namespace Go.Lens.Tb
open Go.Proofs
variable [Lz]
set_option linter.unusedSectionVars false
set_option maxRecDepth 100000
attribute [local irreducible] TK PK T RG EfR Body CG
theorem w29 (a b:List Int) (hl:a.length≤1000000000000000):CallOk Tryz.prog 29 [vL eI a,vL eI b] (lookM []) (vB (decide (a=b))) []:=by
 refine cG qf29 rfl (nB rfl) rfl (E rfl (B.lenL rfl un22) (E rfl (B.lenL rfl un22) (Cp rfl rfl (fun h1=>?_) (fun h1=>?_))))
 ·exact Rt rfl (leaf (val0:=vB false) (by kernel_rfl) (lb (by first|(refine (decide_eq_false fun e=>?_).symm;subst e;omega)|(refine (decide_eq_true ?_).symm;exact list_ext_getD 0 hI0.2.1 fun j hj=>hI0.2.2 j (by omega)))))
 ·refine l1 (fun (k:Nat)=>[(0,vL eI a),(1,vL eI b),(5,vI k)]) (fun _=>[]) (fun k=>k≤a.length∧a.length=b.length∧∀ j,j<k→List.getD a j 0=List.getD b j 0) (fun k=>a.length-k) 0 rfl ?_ (sb rfl rfl rfl) ?_
  · exact⟨Nat.zero_le _,by omega,fun j hj=>by omega⟩
  intro k hI0
  refine E rfl (B.lenL rfl un22) (Cp rfl rfl (fun h2=>?_) (fun h2=>?_))
  ·refine E rfl (B.idx (z:=0) (i:=k) rfl rfl un22 sz3 (fun _=>rfl) rfl (by omega)) (E rfl (B.idx (z:=0) (i:=k) rfl rfl un22 sz3 (fun _=>rfl) rfl (by omega)) (Dr rfl (by kernel_rfl) (Cp rfl rfl (fun h3=>?_) (fun h3=>?_))))
   ·exact Rt rfl (leaf (val0:=vB false) (by kernel_rfl) (lb (by first|(refine (decide_eq_false fun e=>?_).symm;subst e;omega)|(refine (decide_eq_true ?_).symm;exact list_ext_getD 0 hI0.2.1 fun j hj=>hI0.2.2 j (by omega)))))
   ·refine E rfl (B.add rfl rfl (by unfold R64;omega)) (pk rfl (L1 (k+1) ?_ ?_ (sb rfl rfl rfl)))
    · (refine⟨by omega,by omega,fun j hj=>?_⟩;rcases Nat.lt_succ_iff_lt_or_eq.1 hj with h|h;exact hI0.2.2 j h;subst h;omega)
    · omega
  ·exact Rt rfl (leaf (val0:=vB true) (by kernel_rfl) (lb (by first|(refine (decide_eq_false fun e=>?_).symm;subst e;omega)|(refine (decide_eq_true ?_).symm;exact list_ext_getD 0 hI0.2.1 fun j hj=>hI0.2.2 j (by omega)))))
end Go.Lens.Tb
end
section
namespace Go.Lens.Tb
open Go.Proofs
variable [Lz]
set_option linter.unusedSectionVars false
set_option maxRecDepth 100000
attribute [local irreducible] TK PK T RG EfR Body CG
end Go.Lens.Tb
end
section
namespace Go.Lens.Tb
set_option linter.unusedSectionVars false
abbrev VT (t:Tgt):Prop:=1≤t.bright∧t.bright≤1000∧0≤t.place∧t.place≤360∧1≤t.length∧t.length≤1440∧0≤t.from_∧t.from_≤1440∧0≤t.to∧t.to≤1440∧0≤t.limit∧t.limit≤100
abbrev VI (l:List Tgt) (n:Int):Prop:=0≤n∧n<(l.length:Int)∧VT (l.getD n.toNat default)
theorem getD_mem {α:Type} {l:List α} {k:Nat} {z:α} (h:k<l.length):l.getD k z∈l:=by
  rw[List.getD_eq_getElem?_getD,List.getElem?_eq_getElem h];exact List.getElem_mem h
def prevT (l:List Tgt) (o:List Int) (i:Nat):Option Tgt:=if i=0 then none else some (l.getD (o.getD (i-1) 0).toNat default)
def startA (prev:Option Tgt) (t:Tgt) (a:Int):Int:=match prev with|none=>a|some p=>a+apartF t.place p.place
end Go.Lens.Tb
end
section
namespace Go.Lens.Tb
open Go.Proofs
variable [Lz]
set_option linter.unusedSectionVars false
set_option maxRecDepth 100000
attribute [local irreducible] TK PK T RG EfR Body CG
theorem by3:ty3.info.bytes=8:=by kernel_rfl
theorem in3:tab.info? 3=some ty3.info:=by kernel_rfl
end Go.Lens.Tb
end
section
namespace Go.Lens.Tb
set_option linter.unusedSectionVars false
theorem byteAt_get {s:ByteArray} {p:Nat} (h:p<s.size):byteAt s p=((s[p]'h).toNat:Int):=by
  unfold byteAt
  have h':p<s.data.toList.length:=by simpa using h
  rw[List.getD_eq_getElem?_getD,List.getElem?_eq_getElem h']
  simp[ByteArray.getElem_eq_getElem_data]
theorem nameAt_high {p:Nat} {c:Int} (h:128≤c):nameAt p c=false:=by
  unfold nameAt letterF
  rw[decide_eq_false (p:=c≤122) (by omega),decide_eq_false (p:=c≤90) (by omega),decide_eq_false (p:=c≤57) (by omega),decide_eq_false (p:=c=95) (by omega)]
  simp
theorem rune_name {s:ByteArray} {p:Nat} (h:p<s.size):nameAt p (((Utf8.decode s p).1:Nat):Int)=nameAt p (byteAt s p)∧(nameAt p (byteAt s p)=true→(Utf8.decode s p).2=1):=by
  rw[byteAt_get h]
  rcases Nat.lt_or_ge (s[p]'h).toNat 128 with ha|ha
  · rw[decode_ascii s p h ha]
    exact⟨rfl,fun _=>rfl⟩
  · have:=decode_high s p h ha
    rw[nameAt_high (by omega),nameAt_high (by omega)]
    exact⟨rfl,fun h=>by cases h⟩
theorem nm8r:∀ L z n95 l48 g57:Bool,(bif !L then (bif z then true else (bif n95 then (bif l48 then true else g57) else false)) else false)=!(L||(!z&&((!l48&&!g57)||!n95))):=by decide
theorem nameAt_r (p:Nat) (c:Int):(letterF c||(!decide ((p:Int)=0)&&((!decide (c<48)&&!decide (57<c))||!decide (c≠95))))=nameAt p c:=by
  unfold nameAt
  congr 2
  have h1:(!decide (c<48))=decide (48≤c):=by rw[Bool.eq_iff_iff];simp
  have h2:(!decide (57<c))=decide (c≤57):=by rw[Bool.eq_iff_iff];simp
  have h3:(!decide (c≠95))=decide (c=95):=by rw[Bool.eq_iff_iff];simp
  rw[h1,h2,h3]
theorem rune_cond {s:ByteArray} {p:Nat} (h:p<s.size) {c:Int} (hc:c=(((Utf8.decode s p).1:Nat):Int)) {b:Bool}
    (hb:(bif !(letterF c) then (bif decide ((p:Int)=0) then true else (bif decide (c≠95) then (bif decide (c<48) then true else decide (57<c)) else false)) else false)=b):nameAt p (byteAt s p)=!b:=by
  rw[nm8r,nameAt_r,hc,(rune_name h).1] at hb
  rw[←hb,Bool.not_not]
theorem empty_iff {s:ByteArray}:s=⟨#[]⟩↔s.size=0:=by
  constructor
  · rintro rfl;rfl
  · intro h;exact ByteArray.ext (Array.eq_empty_of_size_eq_zero h)
theorem first_one (pre:List Tgt) (t:Tgt):firstF [whenF (!isNameF t.name) 8,whenF (pre.any fun o=>decide (o.name=t.name)) 9,whenF (!inRangeF t) 3]=chkOne pre t:=by
  unfold chkOne whenF
  cases isNameF t.name<;>cases (pre.any fun o=>decide (o.name=t.name))<;>cases inRangeF t<;>rfl
end Go.Lens.Tb
end
section
namespace Go.Lens.Tb
open Go.Proofs
variable [Lz]
set_option linter.unusedSectionVars false
set_option maxRecDepth 100000
attribute [local irreducible] TK PK T RG EfR Body CG
theorem w241 (c:Int):CallOk Tryz.prog 241 [.pv (.lit (.int .i32 c))] (lookM []) (vB (letterF c)) []:=by
 exact cG qf241 rfl (nB rfl) rfl (Eg rfl rfl (fun hc=>B.move rfl) rfl (Eg rfl rfl (fun hc=>B.leq (ev1_gd rfl hc) rfl) rfl (E rfl (B.pick rfl rfl rfl (gdB rfl) rfl (pick_and _)) (Eg rfl rfl (fun hc=>B.move rfl) rfl (Eg rfl rfl (fun hc=>B.geq (ev1_gd rfl hc) rfl) rfl (Eg rfl rfl (fun hc=>B.move (ev1_gd rfl hc)) rfl (Eg rfl rfl (fun hc=>B.move rfl) rfl (Eg rfl rfl (fun hc=>B.leq (ev1_gd rfl hc) rfl) rfl (Eg rfl rfl (fun hc=>B.pick (ev1_gd rfl hc) rfl rfl (gdB rfl) rfl (pick_and2 hc)) rfl (E rfl (B.pick rfl rfl rfl rfl (gdB rfl) (pick_or _)) (Rt rfl (leaf (val0:=vB (bif (bif (decide (97≤c)) then (decide (c≤122)) else false) then true else (bif (decide (65≤c)) then (decide (c≤90)) else false))) (by kernel_rfl) (lb (by simp only[letterF,bif_or,bif_and]))))))))))))))
theorem w164 (s:ByteArray):CallOk Tryz.prog 164 [vS s] (lookM []) (vB (isNameF s)) []:=by
 refine cG qf164 rfl (nB rfl) rfl (E rfl (B.rangeS rfl un9 rfl rfl) (l1 (fun (p:Nat)=>[(0,vS s),(6,.bref 7 0)]) (fun p=>[(7,.siter s p)]) (fun p=>p≤ByteArray.size s∧∀ j,j<p→nameAt j (byteAt s j)=true) (fun p=>ByteArray.size s-p) 0 rfl ?_ (sb rfl rfl rfl) ?_))
 · exact⟨Nat.zero_le _,fun j hj=>by omega⟩
 intro p hI0
 refine Nx rfl rfl rfl (fun h1=>?_) (fun h1=>?_)
 ·refine CT rfl rfl (C rfl (w241 (((Utf8.decode s p).1:Nat):Int)) rfl rfl rfl (Eg rfl rfl (fun hc=>B.move rfl) rfl (Eg rfl rfl (fun hc=>B.eql (ev1_gd rfl hc) rfl) rfl (Eg rfl rfl (fun hc=>B.move (ev1_gd rfl hc)) rfl (Eg rfl rfl (fun hc=>B.move rfl) rfl (Eg rfl rfl (fun hc=>B.neq (ev1_gd rfl hc) rfl) rfl (Eg rfl rfl (fun hc=>B.move (ev1_gd rfl hc)) rfl (Eg rfl rfl (fun hc=>B.move rfl) rfl (Eg rfl rfl (fun hc=>B.lss (ev1_gd rfl hc) rfl) rfl (Eg rfl rfl (fun hc=>B.move (ev1_gd rfl hc)) rfl (Eg rfl rfl (fun hc=>B.move rfl) rfl (Eg rfl rfl (fun hc=>B.gtr (ev1_gd rfl hc) rfl) rfl (Eg rfl rfl (fun hc=>B.pick (ev1_gd rfl hc) rfl rfl rfl (gdB rfl) (pick_or2 hc)) rfl ?_)))))))))))))
  refine Eg rfl rfl (fun hc=>B.pick (ev1_gd rfl hc) rfl rfl (gdB rfl) rfl (pick_and2 hc)) rfl (Eg rfl rfl (fun hc=>B.pick (ev1_gd rfl hc) rfl rfl rfl (gdB rfl) (pick_or2 hc)) rfl (E rfl (B.pick rfl rfl rfl (gdB rfl) rfl (pick_and _)) (Cb rfl rfl (fun h2=>?_) (fun h2=>?_))))
  ·exact Rt rfl (leaf (val0:=vB false) (by kernel_rfl) (lb (by first
          | exact (isName_no p h1 (rune_cond h1 rfl h2)).symm
          | (have he:p=ByteArray.size s:=by omega
             rw[bif_and]
             by_cases h0:ByteArray.size s=0
             · rw[decide_eq_false (p:=s≠⟨#[]⟩) (fun h=>h (empty_iff.2 h0)),isName_len (.inl (by omega))];rfl
             · rw[decide_eq_true (p:=s≠⟨#[]⟩) (fun h=>h0 (empty_iff.1 h))]
               by_cases h9:ByteArray.size s≤24
               · rw[decide_eq_true (by omega),isName_yes (by omega) h9 fun j hj=>hI0.2 j (by omega)];rfl
               · rw[decide_eq_false (by omega),isName_len (.inr (by omega))];rfl))))
  ·refine pk rfl (L1 (p+(Utf8.decode s p).2) ?_ ?_ (sb rfl rfl rfl))
   · (have hn:=rune_cond h1 rfl h2;rw[(rune_name h1).2 hn];refine⟨by omega,fun j hj=>?_⟩;rcases Nat.lt_succ_iff_lt_or_eq.1 hj with h|h;exact hI0.2 j h;subst h;exact hn)
   · (have hn:=rune_cond h1 rfl h2;rw[(rune_name h1).2 hn];omega)
 ·refine CF rfl rfl (E rfl (B.sneq rfl rfl) (Eg rfl rfl (fun hc=>B.move rfl) rfl (Eg rfl rfl (fun hc=>B.lenS (ev1_gd rfl hc) un9) rfl (Eg rfl rfl (fun hc=>B.leq (ev1_gd rfl hc) rfl) rfl (E rfl (B.pick rfl rfl rfl (gdB rfl) rfl (pick_and _)) ?_)))))
  exact Rt rfl (leaf (val0:=vB (bif (decide (s≠⟨#[]⟩)) then (decide (((ByteArray.size s:Nat):Int)≤24)) else false)) (by kernel_rfl) (lb (by first
          | exact (isName_no p h1 (rune_cond h1 rfl h2)).symm
          | (have he:p=ByteArray.size s:=by omega
             rw[bif_and]
             by_cases h0:ByteArray.size s=0
             · rw[decide_eq_false (p:=s≠⟨#[]⟩) (fun h=>h (empty_iff.2 h0)),isName_len (.inl (by omega))];rfl
             · rw[decide_eq_true (p:=s≠⟨#[]⟩) (fun h=>h0 (empty_iff.1 h))]
               by_cases h9:ByteArray.size s≤24
               · rw[decide_eq_true (by omega),isName_yes (by omega) h9 fun j hj=>hI0.2 j (by omega)];rfl
               · rw[decide_eq_false (by omega),isName_len (.inr (by omega))];rfl))))
theorem w104 (s:ByteArray):CallOk Tryz.prog 104 [vS s] (lookM []) (vI (whenF (!(isNameF s)) 8)) []:=by
 exact cG qf104 rfl (nB rfl) rfl (C rfl (w164 s) rfl rfl rfl (C rfl (w101 (!(isNameF s)) 8) rfl rfl rfl (Rt rfl (leaf rfl rfl))))
end Go.Lens.Tb
end
section
namespace Go.Lens.Tm
open Go.Lens.Tb Go.Proofs
set_option linter.unusedSectionVars false
def permI (c:Int):Bool:=(((((decide (97≤c)&&decide (c≤122))||(decide (65≤c)&&decide (c≤90)))||(decide (48≤c)&&decide (c≤57)))||decide (c=46))||decide (c=45))||decide (c=47)||decide (c=95)
def permS (s:List UInt8):Bool:=s.all fun b=>permI (b.toNat:Int)
def chkF (f:Fld):Int:=bif !(isNameF (bsO f.1)) then 8 else bif decide (60<f.2.length) then 26 else bif !(permS f.2) then 1 else 0
def ordB (l:List Fld) (i:Nat):Bool:=decide (0<i)&&leS (l.getD i ([],[])).1 (l.getD (i-1) ([],[])).1
def fOne (l:List Fld) (i:Nat):Int:=if chkF (l.getD i ([],[]))=0 then (bif ordB l i then 11 else 0) else chkF (l.getD i ([],[]))
def fGo (l:List Fld):Nat→Nat→Int
 | 0,_=>0
 | n+1,i=>if fOne l i=0 then fGo l n (i+1) else fOne l i
def chkFl (l:List Fld):Int:=bif decide (24<l.length) then 5 else fGo l l.length 0
def shortF (l:List Fld) (n:Int):Bool:=bif (decide (n<(l.length:Int))&&decide ((l.length:Int)≤24))||decide (26<(l.length:Int)) then false else l.all fun f=>decide (f.1.length≤60)&&decide (f.2.length≤100)
theorem dlt (a b:Int):decide (a<b)=!decide (b≤a):=by rw[Bool.eq_iff_iff];simp
theorem dne {α:Type} [DecidableEq α] (a b:α):decide (a≠b)=!decide (a=b):=by rw[Bool.eq_iff_iff];simp
theorem perm_not (c:Int):(!permI c)=((((((decide (c<97)||decide (122<c))&&(decide (c<65)||decide (90<c)))&&(decide (c<48)||decide (57<c)))&&decide (c≠46))&&decide (c≠45))&&decide (c≠47)&&decide (c≠95)):=by
 unfold permI
 simp only[dlt,dne,Bool.not_or,Bool.not_and]
theorem fGo_step {l:List Fld} {k:Nat} (hk:k<l.length) (h:fOne l k=0):fGo l (l.length-k) k=fGo l (l.length-(k+1)) (k+1):=by
 rw[show l.length-k=(l.length-(k+1))+1 by omega,fGo,if_pos h]
theorem fGo_err {l:List Fld} {k:Nat} (hk:k<l.length) (h:fOne l k≠0):fGo l (l.length-k) k=fOne l k:=by
 rw[show l.length-k=(l.length-(k+1))+1 by omega,fGo,if_neg h]
theorem permS_no {s:List UInt8} {k:Nat} (hk:k<s.length) (h:permI (byteAt (bsO s) k)=false):permS s=false:=by
 unfold permS
 rw[List.all_eq_false]
 refine⟨s.getD k 0,getD_mem hk,?_⟩
 change permI ((s.getD k 0).toNat:Int)=false at h
 rw[h];simp
theorem permS_yes {s:List UInt8} (h:∀ j,j<s.length→permI (byteAt (bsO s) j)=true):permS s=true:=by
 unfold permS
 rw[List.all_eq_true]
 intro b hb
 obtain⟨j,hj,rfl⟩:=List.getElem_of_mem hb
 have:=h j hj
 change permI ((s.getD j 0).toNat:Int)=true at this
 rw[List.getD_eq_getElem?_getD,List.getElem?_eq_getElem hj] at this
 exact this
theorem first_fld (l:List Fld) (i:Nat):firstF [whenF (!(isNameF (bsO (l.getD i ([],[])).1))) 8,whenF (decide (60<(((l.getD i ([],[])).2.length:Nat):Int))) 26,whenF (!(permS (l.getD i ([],[])).2)) 1,whenF (bif decide (0<((i:Nat):Int)) then leS (l.getD i ([],[])).1 (l.getD (i-1) ([],[])).1 else false) 11]=fOne l i:=by
 unfold fOne chkF ordB whenF
 have h1:decide (60<(((l.getD i ([],[])).2.length:Nat):Int))=decide (60<(l.getD i ([],[])).2.length):=by rw[Bool.eq_iff_iff];simp;omega
 have h2:decide (0<((i:Nat):Int))=decide (0<i):=by rw[Bool.eq_iff_iff];simp
 rw[h1,h2]
 cases isNameF (bsO (l.getD i ([],[])).1)<;>cases decide (60<(l.getD i ([],[])).2.length)<;>cases permS (l.getD i ([],[])).2<;>cases decide (0<i)<;>cases leS (l.getD i ([],[])).1 (l.getD (i-1) ([],[])).1<;>rfl
end Go.Lens.Tm
end
section
namespace Go.Lens.Tm
open Go.Lens.Tb Go.Proofs
set_option linter.unusedSectionVars false
section
variable {l:List Fld} {k:Nat}
theorem f_bad (h:chkF (l.getD k ([],[]))≠0):fOne l k=chkF (l.getD k ([],[])):=by unfold fOne;rw[if_neg h]
theorem f_ordq {b:Bool} (h:(bif decide (0<((k:Nat):Int)) then leS (l.getD k ([],[])).1 (l.getD (k-1) ([],[])).1 else false)=b):ordB l k=b:=by
 rw[←h]
 unfold ordB
 have h2:decide (0<((k:Nat):Int))=decide (0<k):=by rw[Bool.eq_iff_iff];simp
 rw[h2]
 cases decide (0<k)<;>rfl
theorem f_ord (h:¬chkF (l.getD k ([],[]))≠0) (h4:(bif decide (0<((k:Nat):Int)) then leS (l.getD k ([],[])).1 (l.getD (k-1) ([],[])).1 else false)=true):fOne l k=11:=by
 unfold fOne;rw[if_pos (Decidable.not_not.1 h),f_ordq h4];rfl
theorem f_ok (h:¬chkF (l.getD k ([],[]))≠0) (h4:(bif decide (0<((k:Nat):Int)) then leS (l.getD k ([],[])).1 (l.getD (k-1) ([],[])).1 else false)=false):fOne l k=0:=by
 unfold fOne;rw[if_pos (Decidable.not_not.1 h),f_ordq h4];rfl
theorem take_fld (l:List Fld) (k:Nat) (h:k<l.length):l.take (k+1)=l.take k++[l.getD k ([],[])]:=by
 rw[List.take_add_one,List.getElem?_eq_getElem h,List.getD_eq_getElem?_getD,List.getElem?_eq_getElem h];rfl
end
theorem eq_getD {α:Type} (z:α) {a b:List α} (h:a.length=b.length) (k:∀ j,j<a.length→a.getD j z=b.getD j z):a=b:=by
 apply List.ext_getElem h
 intro i h1 h2
 have:=k i h1
 rwa [List.getD_eq_getElem?_getD,List.getD_eq_getElem?_getD,List.getElem?_eq_getElem h1,List.getElem?_eq_getElem h2] at this
end Go.Lens.Tm
end
section
namespace Go.Lens.Tm
open Go.Lens.Tb Go.Proofs
variable [Lz]
set_option linter.unusedSectionVars false
set_option maxHeartbeats 2000000
set_option maxRecDepth 100000
attribute [local irreducible] TK PK T RG EfR Body CG
theorem by175:ty175.info.bytes=32:=by kernel_rfl
theorem fa175_0:fadQ tab 175 0=some 0:=by kernel_rfl
theorem in175:tab.info? 175=some ty175.info:=by kernel_rfl
theorem sz175:szT tab 175=some 2:=by kernel_rfl
theorem un60:tab.underlying 60=some (.slice 175):=by kernel_rfl
theorem w172 (c:Int):CallOk Tryz.prog 172 [.pv (.lit (.int .u8 c))] (lookM []) (vB (permI c)) []:=by
 refine cG qf172 rfl (nB rfl) rfl (Eg rfl rfl (fun hc=>B.move rfl) rfl (Eg rfl rfl (fun hc=>B.leq (ev1_gd rfl hc) rfl) rfl (E rfl (B.pick rfl rfl rfl (gdB rfl) rfl (pick_and _)) (Eg rfl rfl (fun hc=>B.move rfl) rfl (Eg rfl rfl (fun hc=>B.geq (ev1_gd rfl hc) rfl) rfl (Eg rfl rfl (fun hc=>B.move (ev1_gd rfl hc)) rfl (Eg rfl rfl (fun hc=>B.move rfl) rfl (Eg rfl rfl (fun hc=>B.leq (ev1_gd rfl hc) rfl) rfl (Eg rfl rfl (fun hc=>B.pick (ev1_gd rfl hc) rfl rfl (gdB rfl) rfl (pick_and2 hc)) rfl (E rfl (B.pick rfl rfl rfl rfl (gdB rfl) (pick_or _)) (Eg rfl rfl (fun hc=>B.move rfl) rfl (Eg rfl rfl (fun hc=>B.geq (ev1_gd rfl hc) rfl) rfl (Eg rfl rfl (fun hc=>B.move (ev1_gd rfl hc)) rfl ?_)))))))))))))
 refine Eg rfl rfl (fun hc=>B.move rfl) rfl (Eg rfl rfl (fun hc=>B.leq (ev1_gd rfl hc) rfl) rfl (Eg rfl rfl (fun hc=>B.pick (ev1_gd rfl hc) rfl rfl (gdB rfl) rfl (pick_and2 hc)) rfl (E rfl (B.pick rfl rfl rfl rfl (gdB rfl) (pick_or _)) (Eg rfl rfl (fun hc=>B.move rfl) rfl (Eg rfl rfl (fun hc=>B.eql (ev1_gd rfl hc) rfl) rfl (E rfl (B.pick rfl rfl rfl rfl (gdB rfl) (pick_or _)) (Eg rfl rfl (fun hc=>B.move rfl) rfl (Eg rfl rfl (fun hc=>B.eql (ev1_gd rfl hc) rfl) rfl (E rfl (B.pick rfl rfl rfl rfl (gdB rfl) (pick_or _)) (Eg rfl rfl (fun hc=>B.move rfl) rfl (Eg rfl rfl (fun hc=>B.eql (ev1_gd rfl hc) rfl) rfl (E rfl (B.pick rfl rfl rfl rfl (gdB rfl) (pick_or _)) (Eg rfl rfl (fun hc=>B.move rfl) rfl ?_)))))))))))))
 exact Eg rfl rfl (fun hc=>B.eql (ev1_gd rfl hc) rfl) rfl (E rfl (B.pick rfl rfl rfl rfl (gdB rfl) (pick_or _)) (Rt rfl (leaf (val0:=vB (bif (bif (bif (bif (bif (bif (bif (decide (97≤c)) then (decide (c≤122)) else false) then true else (bif (decide (65≤c)) then (decide (c≤90)) else false)) then true else (bif (decide (48≤c)) then (decide (c≤57)) else false)) then true else (decide (c=46))) then true else (decide (c=45))) then true else (decide (c=47))) then true else (decide (c=95)))) (by kernel_rfl) (lb (by simp only[permI,bif_or,bif_and])))))
theorem w118 (f:Fld):CallOk Tryz.prog 118 [.pv (.agg [pS (bsO f.1),pS (bsO f.2)])] (lookM []) (vI (chkF f)) []:=by
 refine cG qf118 rfl (nB rfl) rfl (C rfl (w94 (bsO f.1)) rfl rfl rfl (Cb rfl rfl (fun h1=>?_) (fun h1=>?_)))
 ·exact Rt rfl (leaf (val0:=vI 8) (by kernel_rfl) (li (by unfold chkF;(rw[h1];rfl))))
 ·refine E rfl (B.lenB (a:=f.2) rfl un9) (Cp rfl rfl (fun h2=>?_) (fun h2=>?_))
  ·exact Rt rfl (leaf (val0:=vI 26) (by kernel_rfl) (li (by unfold chkF;(rw[h1,decide_eq_true (by omega)];rfl))))
  ·refine l1 (fun (k:Nat)=>[(1,.bref 2 0),(3,vI k)]) (fun _=>[(2,.box 175 [vS (bsO f.1),vS (bsO f.2)])]) (fun k=>k≤f.2.length∧f.2.length≤60∧∀ j,j<k→permI (byteAt (bsO f.2) j)=true) (fun k=>f.2.length-k) 0 rfl ?_ (sb rfl rfl rfl) ?_
   · exact⟨Nat.zero_le _,by omega,fun j hj=>by omega⟩
   intro k hI0
   refine E rfl (B.lenB (a:=f.2) rfl un9) (Cp rfl rfl (fun h3=>?_) (fun h3=>?_))
   ·refine E rfl (B.sidx (i:=k) rfl rfl un9 rfl (show k<f.2.length from (by omega))) (C rfl (w172 (byteAt (bsO f.2) k)) rfl rfl rfl (Cb rfl rfl (fun h4=>?_) (fun h4=>?_)))
    ·exact Rt rfl (leaf (val0:=vI 1) (by kernel_rfl) (li (by unfold chkF;(rw[h1,decide_eq_false (by omega),permS_no (by omega) (bnot_t h4)];rfl))))
    ·refine E rfl (B.add rfl rfl (by unfold R64;omega)) (pk rfl (L1 (k+1) ?_ ?_ (sb rfl rfl rfl)))
     · (refine⟨by omega,hI0.2.1,fun j hj=>?_⟩;rcases Nat.lt_succ_iff_lt_or_eq.1 hj with h|h;exact hI0.2.2 j h;subst h;exact bnot_f h4)
     · omega
   ·exact Rt rfl (leaf (val0:=vI 0) (by kernel_rfl) (li (by unfold chkF;(rw[h1,decide_eq_false (by omega),permS_yes fun j hj=>hI0.2.2 j (by omega)];rfl))))
theorem w38 (l:List Fld) (hl:l.length≤1000000000000000):CallOk Tryz.prog 38 [vL eF l] (lookM []) (vI (chkFl l)) []:=by
 refine cG qf38 rfl (nB rfl) rfl (E rfl (B.lenL rfl un60) (Cp rfl rfl (fun h1=>?_) (fun h1=>?_)))
 ·exact Rt rfl (leaf (val0:=vI 5) (by kernel_rfl) (li (by (unfold chkFl;rw[decide_eq_true (by omega)];rfl))))
 ·refine l1 (fun (k:Nat)=>[(0,vL eF l),(3,vI k)]) (fun _=>[]) (fun k=>k≤l.length∧l.length≤24∧chkFl l=fGo l (l.length-k) k) (fun k=>l.length-k) 0 rfl ?_ (sb rfl rfl rfl) ?_
  · (exact⟨Nat.zero_le _,by omega,by unfold chkFl;rw[decide_eq_false (by omega)];rfl⟩)
  intro k hI0
  refine E rfl (B.lenL rfl un60) (Cp rfl rfl (fun h2=>?_) (fun h2=>?_))
  ·refine E rfl (B.idx (z:=([],[])) (i:=k) rfl rfl un60 sz175 (fun _=>rfl) rfl (by omega)) (C rfl (w118 (List.getD l k ([],[]))) rfl rfl rfl (Cp rfl rfl (fun h3=>?_) (fun h3=>?_)))
   ·exact Rt rfl (leaf (val0:=vI (chkF (List.getD l k ([],[])))) (by kernel_rfl) (li (by (rw[hI0.2.2,fGo_err (by omega) (by rw[f_bad h3];exact h3),f_bad h3]))))
   ·refine Eg rfl rfl (fun hc=>B.move rfl) rfl (Eg rfl rfl (fun hc=>B.move rfl) rfl (Eg rfl rfl (fun hc=>B.idx (z:=([],[])) (i:=k) (ev1_gd rfl hc) (ev1_gd rfl hc) un60 sz175 (fun _=>rfl) rfl (by omega)) rfl (Eg rfl rfl (fun hc=>B.fadP (ev1_gd rfl hc) fa175_0 rfl) rfl (Eg rfl rfl (fun hc=>B.loadP (ev1_gd rfl hc) ag9 sz9) rfl (Eg rfl rfl (fun hc=>B.move rfl) rfl (Eg rfl rfl (fun hc=>B.move rfl) rfl (Eg rfl rfl (fun hc=>B.sub (ev1_gd rfl hc) rfl (by unfold R64;omega)) rfl (Eg rfl rfl (fun hc=>B.idx (z:=([],[])) (i:=(k-1)) (ev1_gd rfl hc) (ev1_gd rfl hc) un60 sz175 (fun _=>rfl) (by (have hc2:=hc;simp at hc2;omega)) (by omega)) rfl (Eg rfl rfl (fun hc=>B.fadP (ev1_gd rfl hc) fa175_0 rfl) rfl (Eg rfl rfl (fun hc=>B.loadP (ev1_gd rfl hc) ag9 sz9) rfl (Eg rfl rfl (fun hc=>B.sleB (a:=(List.getD l k ([],[])).1) (b:=(List.getD l (k-1) ([],[])).1) (ev1_gd rfl hc) (ev1_gd rfl hc)) rfl (E rfl (B.pick rfl rfl rfl (gdB rfl) rfl (pick_and _)) (Dr rfl (by kernel_rfl) (Cb rfl rfl (fun h4=>?_) (fun h4=>?_)))))))))))))))
    ·exact Rt rfl (leaf (val0:=vI 11) (by kernel_rfl) (li (by (rw[hI0.2.2,fGo_err (by omega) (by rw[f_ord h3 h4];decide),f_ord h3 h4]))))
    ·refine E rfl (B.add rfl rfl (by unfold R64;omega)) (pk rfl (L1 (k+1) ?_ ?_ (sb rfl rfl rfl)))
     · (refine⟨by omega,hI0.2.1,?_⟩;rw[hI0.2.2];exact fGo_step (by omega) (f_ok h3 h4))
     · omega
  ·exact Rt rfl (leaf (val0:=vI 0) (by kernel_rfl) (li (by (rw[hI0.2.2,show l.length-k=0 by omega];rfl))))
theorem w45 (a b:List (List UInt8)) (hl:a.length≤1000000000000000):CallOk Tryz.prog 45 [vL eN a,vL eN b] (lookM []) (vB (decide (a=b))) []:=by
 refine cG qf45 rfl (nB rfl) rfl (E rfl (B.lenL rfl un73) (E rfl (B.lenL rfl un73) (Cp rfl rfl (fun h1=>?_) (fun h1=>?_))))
 ·exact Rt rfl (leaf (val0:=vB false) (by kernel_rfl) (lb (by exact (decide_eq_false fun e=>by subst e;omega).symm)))
 ·refine l1 (fun (k:Nat)=>[(0,vL eN a),(1,vL eN b),(5,vI k)]) (fun _=>[]) (fun k=>k≤a.length∧a.length=b.length∧∀ j,j<k→List.getD a j []=List.getD b j []) (fun k=>a.length-k) 0 rfl ?_ (sb rfl rfl rfl) ?_
  · exact⟨Nat.zero_le _,by omega,fun j hj=>by omega⟩
  intro k hI0
  refine E rfl (B.lenL rfl un73) (Cp rfl rfl (fun h2=>?_) (fun h2=>?_))
  ·refine E rfl (B.idx (z:=[]) (i:=k) rfl rfl un73 sz9 (fun _=>rfl) rfl (by omega)) (E rfl (B.idx (z:=[]) (i:=k) rfl rfl un73 sz9 (fun _=>rfl) rfl (by omega)) (E rfl (B.sneB (a:=(List.getD a k [])) (b:=(List.getD b k [])) rfl rfl) (Dr rfl (by kernel_rfl) (Cp rfl rfl (fun h3=>?_) (fun h3=>?_)))))
   ·exact Rt rfl (leaf (val0:=vB false) (by kernel_rfl) (lb (by exact (decide_eq_false fun e=>by subst e;exact h3 rfl).symm)))
   ·refine E rfl (B.add rfl rfl (by unfold R64;omega)) (pk rfl (L1 (k+1) ?_ ?_ (sb rfl rfl rfl)))
    · (refine⟨by omega,hI0.2.1,fun j hj=>?_⟩;rcases Nat.lt_succ_iff_lt_or_eq.1 hj with h|h;exact hI0.2.2 j h;subst h;exact Decidable.not_not.1 h3)
    · omega
  ·exact Rt rfl (leaf (val0:=vB true) (by kernel_rfl) (lb (by exact (decide_eq_true (eq_getD [] hI0.2.1 fun j hj=>hI0.2.2 j (by omega))).symm)))
end Go.Lens.Tm
end
section
namespace Go.Lens.Tm
open Go.Lens.Tb Go.Proofs
set_option linter.unusedSectionVars false
theorem permI_high {c:Int} (h:128≤c):permI c=false:=by
 unfold permI
 rw[decide_eq_false (p:=c≤122) (by omega),decide_eq_false (p:=c≤90) (by omega),decide_eq_false (p:=c≤57) (by omega),decide_eq_false (p:=c=46) (by omega),decide_eq_false (p:=c=45) (by omega),decide_eq_false (p:=c=47) (by omega),decide_eq_false (p:=c=95) (by omega)]
 simp
theorem rune_perm {s:ByteArray} {p:Nat} (h:p<s.size):permI (((Utf8.decode s p).1:Nat):Int)=permI (byteAt s p)∧(permI (byteAt s p)=true→(Utf8.decode s p).2=1):=by
 rw[byteAt_get h]
 rcases Nat.lt_or_ge (s[p]'h).toNat 128 with ha|ha
 ·rw[decode_ascii s p h ha]
  exact⟨rfl,fun _=>rfl⟩
 ·have:=decode_high s p h ha
  rw[permI_high (by omega),permI_high (by omega)]
  exact⟨rfl,fun h=>by cases h⟩
theorem rune_pq {s:List UInt8} {p:Nat} (h:p<(bsO s).size) {b:Bool} (hb:((!(permI (((Utf8.decode (bsO s) p).1:Nat):Int)))==true)=b):permI (((s.getD p 0).toNat:Nat):Int)=!b:=by
 rw[(rune_perm h).1] at hb
 have hb:((!(permI (((s.getD p 0).toNat:Nat):Int)))==true)=b:=hb
 rw[←hb]
 cases permI (((s.getD p 0).toNat:Nat):Int)<;>rfl
theorem rune_w {s:List UInt8} {p:Nat} (h:p<(bsO s).size) (hb:permI (((s.getD p 0).toNat:Nat):Int)=true):(Utf8.decode (bsO s) p).2=1:=(rune_perm h).2 hb
theorem perm_any (s:List UInt8):(!(List.any s (fun b=>!(permI ((b.toNat:Nat):Int)))))=permS s:=by
 unfold permS
 rw[List.not_any_eq_all_not]
 simp
end Go.Lens.Tm
end
section
namespace Go.Lens.Tm
open Go.Lens.Tb Go.Proofs
variable [Lz]
set_option linter.unusedSectionVars false
set_option maxHeartbeats 2000000
set_option maxRecDepth 100000
attribute [local irreducible] TK PK T RG EfR Body CG
theorem un4:tab.underlying 4=some (.bool):=by kernel_rfl
theorem w174 (c:Int):CallOk Tryz.prog 174 [.pv (.lit (.int .i32 c))] (lookM []) (vB (!(permI c))) []:=by
 refine cG qf174 rfl (nB rfl) rfl (Eg rfl rfl (fun hc=>B.move rfl) rfl (Eg rfl rfl (fun hc=>B.gtr (ev1_gd rfl hc) rfl) rfl (E rfl (B.pick rfl rfl rfl rfl (gdB rfl) (pick_or _)) (Eg rfl rfl (fun hc=>B.move rfl) rfl (Eg rfl rfl (fun hc=>B.lss (ev1_gd rfl hc) rfl) rfl (Eg rfl rfl (fun hc=>B.move (ev1_gd rfl hc)) rfl (Eg rfl rfl (fun hc=>B.move rfl) rfl (Eg rfl rfl (fun hc=>B.gtr (ev1_gd rfl hc) rfl) rfl (Eg rfl rfl (fun hc=>B.pick (ev1_gd rfl hc) rfl rfl rfl (gdB rfl) (pick_or2 hc)) rfl (E rfl (B.pick rfl rfl rfl (gdB rfl) rfl (pick_and _)) (Eg rfl rfl (fun hc=>B.move rfl) rfl (Eg rfl rfl (fun hc=>B.lss (ev1_gd rfl hc) rfl) rfl (Eg rfl rfl (fun hc=>B.move (ev1_gd rfl hc)) rfl ?_)))))))))))))
 refine Eg rfl rfl (fun hc=>B.move rfl) rfl (Eg rfl rfl (fun hc=>B.gtr (ev1_gd rfl hc) rfl) rfl (Eg rfl rfl (fun hc=>B.pick (ev1_gd rfl hc) rfl rfl rfl (gdB rfl) (pick_or2 hc)) rfl (E rfl (B.pick rfl rfl rfl (gdB rfl) rfl (pick_and _)) (Eg rfl rfl (fun hc=>B.move rfl) rfl (Eg rfl rfl (fun hc=>B.neq (ev1_gd rfl hc) rfl) rfl (E rfl (B.pick rfl rfl rfl (gdB rfl) rfl (pick_and _)) (Eg rfl rfl (fun hc=>B.move rfl) rfl (Eg rfl rfl (fun hc=>B.neq (ev1_gd rfl hc) rfl) rfl (E rfl (B.pick rfl rfl rfl (gdB rfl) rfl (pick_and _)) (Eg rfl rfl (fun hc=>B.move rfl) rfl (Eg rfl rfl (fun hc=>B.neq (ev1_gd rfl hc) rfl) rfl (E rfl (B.pick rfl rfl rfl (gdB rfl) rfl (pick_and _)) (Eg rfl rfl (fun hc=>B.move rfl) rfl ?_)))))))))))))
 exact Eg rfl rfl (fun hc=>B.neq (ev1_gd rfl hc) rfl) rfl (E rfl (B.pick rfl rfl rfl (gdB rfl) rfl (pick_and _)) (Rt rfl (leaf (val0:=vB (bif (bif (bif (bif (bif (bif (bif (decide (c<97)) then true else (decide (122<c))) then (bif (decide (c<65)) then true else (decide (90<c))) else false) then (bif (decide (c<48)) then true else (decide (57<c))) else false) then (decide (c≠46)) else false) then (decide (c≠45)) else false) then (decide (c≠47)) else false) then (decide (c≠95)) else false)) (by kernel_rfl) (lb (by rw[perm_not];simp only[bif_or,bif_and])))))
theorem w292 (s:List UInt8) (hl:s.length≤1000000000000000):CallOk Tryz.prog 292 [vS (bsO s),.pv (.fn (.func 174) [] []),vB true] (lookM []) (vI (findI (fun b=>!(permI ((b.toNat:Nat):Int))) s)) []:=by
 refine cG qf292 rfl (nB rfl) rfl (E rfl (B.rangeS rfl un9 rfl rfl) (l1 (fun (p:Nat)=>[(1,.pv (.fn (.func 174) [] [])),(2,vB true),(10,.bref 11 0)]) (fun p=>[(11,.siter (bsO s) p)]) (fun p=>p≤s.length∧∀ j,j<p→permI (((List.getD s j 0).toNat:Nat):Int)=true) (fun p=>s.length-p) 0 rfl ?_ (sb rfl rfl rfl) ?_))
 · exact⟨Nat.zero_le _,fun j hj=>by omega⟩
 intro p hI0
 refine Nx rfl rfl rfl (fun h1=>?_) (fun h1=>?_)
 ·refine CT rfl rfl (C rfl (w174 (((Utf8.decode (bsO s) p).1:Nat):Int)) rfl rfl rfl (E rfl (B.bqB rfl rfl un4) (Cb rfl rfl (fun h2=>?_) (fun h2=>?_))))
  ·exact Rt rfl (leaf (val0:=vI p) (by kernel_rfl) (li (by first
          | (have hn:=rune_pq h1 h2;have hz:p<s.length:=h1;exact (findI_some (p:=(fun b=>!(permI ((b.toNat:Nat):Int)))) (l:=s) (z:=0) p hz (fun j hj=>by rw[hI0.2 j hj];rfl) (by rw[hn];rfl)).symm)
          | (have hz:¬p<s.length:=h1;exact (findI_none (p:=(fun b=>!(permI ((b.toNat:Nat):Int)))) (l:=s) (z:=0) fun j hj=>by rw[hI0.2 j (by omega)];rfl).symm))))
  ·refine pk rfl (L1 (p+(Utf8.decode (bsO s) p).2) ?_ ?_ (sb rfl rfl rfl))
   · (have hn:=rune_pq h1 h2;have hz:p<s.length:=h1;rw[rune_w h1 hn];refine⟨by omega,fun j hj=>?_⟩;rcases Nat.lt_succ_iff_lt_or_eq.1 hj with h|h;exact hI0.2 j h;subst h;exact hn)
   · (have hn:=rune_pq h1 h2;have hz:p<s.length:=h1;rw[rune_w h1 hn];omega)
 ·refine CF rfl rfl ?_
  exact Rt rfl (leaf (val0:=vI (-1)) (by kernel_rfl) (li (by first
          | (have hn:=rune_pq h1 h2;have hz:p<s.length:=h1;exact (findI_some (p:=(fun b=>!(permI ((b.toNat:Nat):Int)))) (l:=s) (z:=0) p hz (fun j hj=>by rw[hI0.2 j hj];rfl) (by rw[hn];rfl)).symm)
          | (have hz:¬p<s.length:=h1;exact (findI_none (p:=(fun b=>!(permI ((b.toNat:Nat):Int)))) (l:=s) (z:=0) fun j hj=>by rw[hI0.2 j (by omega)];rfl).symm))))
theorem w247 (s:List UInt8) (hl:s.length≤1000000000000000):CallOk Tryz.prog 247 [vS (bsO s),.pv (.fn (.func 174) [] [])] (lookM []) (vI (findI (fun b=>!(permI ((b.toNat:Nat):Int))) s)) []:=by
 exact cG qf247 rfl (nB rfl) rfl (C rfl (w292 s (by first|omega|exact Nat.le_of_ble_eq_true rfl|(simp only[List.length_append,List.length_cons,List.length_nil,List.length_take,List.length_drop];omega))) rfl rfl rfl (Rt rfl (leaf rfl rfl)))
theorem w173 (s:List UInt8) (hl:s.length≤1000000000000000):CallOk Tryz.prog 173 [vS (bsO s),.pv (.fn (.func 174) [] [])] (lookM []) (vB (List.any s (fun b=>!(permI ((b.toNat:Nat):Int))))) []:=by
 exact cG qf173 rfl (nB rfl) rfl (C rfl (w247 s (by first|omega|exact Nat.le_of_ble_eq_true rfl|(simp only[List.length_append,List.length_cons,List.length_nil,List.length_take,List.length_drop];omega))) rfl rfl rfl (Rt rfl (leaf (val0:=vB (decide (0≤(findI (fun b=>!(permI ((b.toNat:Nat):Int))) s)))) (by kernel_rfl) (lb (by exact findI_nonneg s)))))
theorem w120 (s:List UInt8) (hl:s.length≤1000000000000000):CallOk Tryz.prog 120 [vS (bsO s)] (lookM []) (vB (permS s)) []:=by
 exact cG qf120 rfl (nB rfl) rfl (C rfl (w173 s (by first|omega|exact Nat.le_of_ble_eq_true rfl|(simp only[List.length_append,List.length_cons,List.length_nil,List.length_take,List.length_drop];omega))) rfl rfl rfl (Rt rfl (leaf (val0:=vB (!(List.any s (fun b=>!(permI ((b.toNat:Nat):Int)))))) (by kernel_rfl) (lb (by exact perm_any s)))))
theorem w41 (l:List Fld) (hl:l.length≤1000000000000000) (hc:∀ f∈l,f.2.length≤1000000000000000):CallOk Tryz.prog 41 [vL eF l] (lookM []) (vI (chkFl l)) []:=by
 refine cG qf41 rfl (nB rfl) rfl (E rfl (B.lenL rfl un59) (Cp rfl rfl (fun h1=>?_) (fun h1=>?_)))
 ·exact Rt rfl (leaf (val0:=vI 5) (by kernel_rfl) (li (by first
          | (unfold chkFl;rw[decide_eq_true (by omega)];rfl)
          | (rw[first_fld] at h3 ⊢;rw[hI0.2.2,fGo_err (by omega) h3])
          | (rw[hI0.2.2,show l.length-k=0 by omega];rfl))))
 ·refine E rfl (B.lenL rfl un59) (l1 (fun (k:Nat)=>[(0,vL eF l),(10,vL eF l),(11,vI l.length),(12,vI k)]) (fun _=>[]) (fun k=>k≤l.length∧l.length≤24∧chkFl l=fGo l (l.length-k) k) (fun k=>l.length-k) 0 rfl ?_ (sb rfl rfl rfl) ?_)
  · (exact⟨Nat.zero_le _,by omega,by unfold chkFl;rw[decide_eq_false (by omega)];rfl⟩)
  intro k hI0
  refine Cp rfl rfl (fun h2=>?_) (fun h2=>?_)
  ·refine E rfl (B.idx (z:=([],[])) (i:=k) rfl rfl un59 sz174 (fun _=>rfl) rfl (by omega)) (E rfl (B.sub rfl rfl (by unfold R64;omega)) (E rfl (B.max rfl rfl) (E rfl (B.idx (z:=([],[])) (i:=(k-1)) rfl rfl un59 sz174 (fun _=>rfl) (by omega) (by omega)) ?_)))
   have hck:=hc _ (getD_mem (l:=l) (k:=k) (z:=([],[])) (by omega))
   refine C rfl (w104 (bsO (List.getD l k ([],[])).1)) rfl rfl rfl (E rfl (B.lenB (a:=(List.getD l k ([],[])).2) rfl un9) (C rfl (w101 (decide (60<((List.length (List.getD l k ([],[])).2:Nat):Int))) 26) rfl rfl rfl (C rfl (w120 (List.getD l k ([],[])).2 (by first|omega|exact Nat.le_of_ble_eq_true rfl|(simp only[List.length_append,List.length_cons,List.length_nil,List.length_take,List.length_drop];omega))) rfl rfl rfl (C rfl (w101 (!(permS (List.getD l k ([],[])).2)) 1) rfl rfl rfl (Eg rfl rfl (fun hc=>B.fadB rfl fa174_0 rfl) rfl (Eg rfl rfl (fun hc=>B.loadB (ev1_gd rfl hc) rfl rfl ag9 sz9 rfl) rfl (Eg rfl rfl (fun hc=>B.fadB rfl fa174_0 rfl) rfl (Eg rfl rfl (fun hc=>B.loadB (ev1_gd rfl hc) rfl rfl ag9 sz9 rfl) rfl (Eg rfl rfl (fun hc=>B.sleB (a:=(List.getD l k ([],[])).1) (b:=(List.getD l (k-1) ([],[])).1) (ev1_gd rfl hc) (ev1_gd rfl hc)) rfl (E rfl (B.pick rfl rfl rfl (gdB rfl) rfl (pick_and _)) (C rfl (w101 (bif (decide (0<(k:Int))) then (leS (List.getD l k ([],[])).1 (List.getD l (k-1) ([],[])).1) else false) 11) rfl rfl rfl (E rfl (B.runZ (val:=.pv (.slice (List.map eI [(whenF (!(isNameF (bsO (List.getD l k ([],[])).1))) 8),(whenF (decide (60<((List.length (List.getD l k ([],[])).2:Nat):Int))) 26),(whenF (!(permS (List.getD l k ([],[])).2)) 1),(whenF (bif (decide (0<(k:Int))) then (leS (List.getD l k ([],[])).1 (List.getD l (k-1) ([],[])).1) else false) 11)]))) rfl (fun l=>Frz.arr l _ _ _ _ _) rfl) (C rfl (w100 [(whenF (!(isNameF (bsO (List.getD l k ([],[])).1))) 8),(whenF (decide (60<((List.length (List.getD l k ([],[])).2:Nat):Int))) 26),(whenF (!(permS (List.getD l k ([],[])).2)) 1),(whenF (bif (decide (0<(k:Int))) then (leS (List.getD l k ([],[])).1 (List.getD l (k-1) ([],[])).1) else false) 11)] (nB rfl)) rfl rfl rfl ?_)))))))))))))
   refine Dr rfl (by kernel_rfl) (Cp rfl rfl (fun h3=>?_) (fun h3=>?_))
   ·exact Rt rfl (leaf (val0:=vI (firstF [(whenF (!(isNameF (bsO (List.getD l k ([],[])).1))) 8),(whenF (decide (60<((List.length (List.getD l k ([],[])).2:Nat):Int))) 26),(whenF (!(permS (List.getD l k ([],[])).2)) 1),(whenF (bif (decide (0<(k:Int))) then (leS (List.getD l k ([],[])).1 (List.getD l (k-1) ([],[])).1) else false) 11)])) (by kernel_rfl) (li (by first
          | (unfold chkFl;rw[decide_eq_true (by omega)];rfl)
          | (rw[first_fld] at h3 ⊢;rw[hI0.2.2,fGo_err (by omega) h3])
          | (rw[hI0.2.2,show l.length-k=0 by omega];rfl))))
   ·refine E rfl (B.add rfl rfl (by unfold R64;omega)) (pk rfl (L1 (k+1) ?_ ?_ (sb rfl rfl rfl)))
    · (refine⟨by omega,hI0.2.1,?_⟩;rw[hI0.2.2];rw[first_fld] at h3;exact fGo_step (by omega) (Decidable.not_not.1 h3))
    · omega
  ·exact Rt rfl (leaf (val0:=vI 0) (by kernel_rfl) (li (by first
          | (unfold chkFl;rw[decide_eq_true (by omega)];rfl)
          | (rw[first_fld] at h3 ⊢;rw[hI0.2.2,fGo_err (by omega) h3])
          | (rw[hI0.2.2,show l.length-k=0 by omega];rfl))))
end Go.Lens.Tm
end
section
namespace Go.Lens.Tm
open Go.Lens.Tb Go.Proofs
set_option linter.unusedSectionVars false
def insGo (x:List UInt8):List (List UInt8)→List (List UInt8)
 | []=>[x]
 | y::l=>bif ltS y x then y::insGo x l else x::y::l
def insS (x:List UInt8) (l:List (List UInt8)):List (List UInt8):=bif List.any l (fun y=>decide (y=x)) then l else insGo x l
def splGo:List UInt8→List UInt8→List (List UInt8)
 | acc,[]=>[acc]
 | acc,c::r=>bif decide (((c.toNat:Nat):Int)=32) then acc::splGo [] r else splGo (acc++[c]) r
def splS (s:List UInt8):List (List UInt8):=splGo [] s
theorem mid_snoc {s:List UInt8} {i f:Nat} (hf:f≤i) (hi:i<s.length):(s.take (i+1)).drop f=(s.take i).drop f++[s.getD i 0]:=by
 have e:s.take (i+1)=s.take i++[s.getD i 0]:=by
  rw[List.take_add_one,List.getElem?_eq_getElem hi,List.getD_eq_getElem?_getD,List.getElem?_eq_getElem hi];rfl
 rw[e,List.drop_append_of_le_length (by rw[List.length_take];omega)]
theorem spl_no {s:List UInt8} {i f:Nat} (hf:f≤i) (hi:i<s.length) (h:¬((s.getD i 0).toNat:Int)=32):splGo ((s.take i).drop f) (s.drop i)=splGo ((s.take (i+1)).drop f) (s.drop (i+1)):=by
 rw[drop_at s i 0 hi,splGo,decide_eq_false h,cond_false,mid_snoc hf hi]
theorem spl_yes {s:List UInt8} {i f:Nat} (hi:i<s.length) (h:((s.getD i 0).toNat:Int)=32):splGo ((s.take i).drop f) (s.drop i)=(s.take i).drop f::splGo ((s.take (i+1)).drop (i+1)) (s.drop (i+1)):=by
 rw[drop_at s i 0 hi,splGo,decide_eq_true h,cond_true]
 congr 2
 rw[List.drop_eq_nil_of_le (by rw[List.length_take];omega)]
theorem spl_end {s:List UInt8} {i f:Nat} (hi:i=s.length):splGo ((s.take i).drop f) (s.drop i)=[(s.take i).drop f]:=by
 have e:s.drop i=[]:=List.drop_eq_nil_of_le (by omega)
 rw[e];rfl
def SplI (s:List UInt8) (i f:Nat) (out:List (List UInt8)):Prop:=f≤i∧out.length≤i∧((i≤s.length∧splS s=out++splGo ((s.take i).drop f) (s.drop i))∨(i=s.length+1∧splS s=out))
theorem splI0 (s:List UInt8):SplI s 0 0 []:=⟨Nat.le_refl _,Nat.zero_le _,.inl ⟨Nat.zero_le _,rfl⟩⟩
theorem spl_at {s:List UInt8} {i f:Nat} {out:List (List UInt8)} (h:SplI s i f out) (hi:((i:Nat):Int)≤((List.length s:Nat):Int)):f≤i∧out.length≤i∧i≤s.length∧splS s=out++splGo ((s.take i).drop f) (s.drop i):=by
 obtain⟨h1,h2,⟨h3,h4⟩|⟨h3,_⟩⟩:=h
 ·exact⟨h1,h2,h3,h4⟩
 ·omega
theorem spl_out {s:List UInt8} {i f:Nat} {out:List (List UInt8)} (h:SplI s i f out) (hi:¬((i:Nat):Int)≤((List.length s:Nat):Int)):out=splS s:=by
 obtain⟨_,_,⟨h3,_⟩|⟨_,h4⟩⟩:=h
 ·omega
 ·exact h4.symm
theorem spl_c {s:List UInt8} {i:Nat} (hi:i≤s.length) {b:Bool} (h:(bif decide (((i:Nat):Int)=((List.length s:Nat):Int)) then true else decide ((byteAt (bsO s) i)=32))=b) :
 (b=true→i=s.length∨(i<s.length∧((s.getD i 0).toNat:Int)=32))∧(b=false→i<s.length∧¬((s.getD i 0).toNat:Int)=32):=by
 have e:byteAt (bsO s) i=((s.getD i 0).toNat:Int):=rfl
 rw[e,bif_or] at h
 constructor
 ·rintro rfl
  simp only[Bool.or_eq_true,decide_eq_true_eq] at h
  rcases h with h|h
  ·exact .inl (by omega)
  ·by_cases hq:i=s.length
   ·exact .inl hq
   ·exact .inr ⟨by omega,h⟩
 ·rintro rfl
  simp only[Bool.or_eq_false_iff,decide_eq_false_iff_not] at h
  exact⟨by omega,h.2⟩
theorem spl_stepY {s:List UInt8} {i f:Nat} {out:List (List UInt8)} (h:SplI s i f out) (hi:((i:Nat):Int)≤((List.length s:Nat):Int)) (h3:(bif decide (((i:Nat):Int)=((List.length s:Nat):Int)) then true else decide ((byteAt (bsO s) i)=32))=true):SplI s (i+1) (i+1) (out++[(s.take i).drop f]):=by
 obtain⟨h1,h2,h4,h5⟩:=spl_at h hi
 refine⟨Nat.le_refl _,by simp only[List.length_append,List.length_cons,List.length_nil];omega,?_⟩
 rcases (spl_c h4 h3).1 rfl with hq|⟨hq,hc⟩
 ·right;rw[spl_end hq] at h5;exact⟨by omega,h5⟩
 ·left;rw[spl_yes hq hc] at h5
  exact⟨by omega,by rw[h5,List.append_assoc];rfl⟩
theorem spl_stepN {s:List UInt8} {i f:Nat} {out:List (List UInt8)} (h:SplI s i f out) (hi:((i:Nat):Int)≤((List.length s:Nat):Int)) (h3:(bif decide (((i:Nat):Int)=((List.length s:Nat):Int)) then true else decide ((byteAt (bsO s) i)=32))=false):SplI s (i+1) f out:=by
 obtain⟨h1,h2,h4,h5⟩:=spl_at h hi
 obtain⟨hq,hc⟩:=(spl_c h4 h3).2 rfl
 exact⟨by omega,by omega,.inl ⟨by omega,by rw[h5,spl_no h1 hq hc]⟩⟩
def fldP (f:Fld):List UInt8:=(f.1++[61])++f.2
def prtK (l:List Fld):Nat→List UInt8
 | 0=>[]
 | k+1=>((bif decide (0<k) then prtK l k++[32] else prtK l k)++(l.getD k ([],[])).1++[61])++(l.getD k ([],[])).2
def prtF (l:List Fld):List UInt8:=prtK l l.length
theorem prtK_len (l:List Fld) (N:Nat) (h:∀ f∈l,f.1.length≤N∧f.2.length≤N):∀ k,k≤l.length→(prtK l k).length≤k*(2*N+2)
 | 0,_=>by simp[prtK]
 | k+1,hk=>by
  have h1:=prtK_len l N h k (by omega)
  have h2:=h _ (getD_mem (l:=l) (k:=k) (z:=([],[])) (by omega))
  simp only[prtK]
  rw[Nat.add_mul]
  cases decide (0<k)<;>simp only[cond_true,cond_false,List.length_append,List.length_cons,List.length_nil]<;>omega
end Go.Lens.Tm
end
section
namespace Go.Lens.Tm
open Go.Lens.Tb Go.Proofs
variable [Lz]
set_option linter.unusedSectionVars false
set_option maxHeartbeats 2000000
set_option maxRecDepth 100000
attribute [local irreducible] TK PK T RG EfR Body CG
theorem w119 (s:List UInt8) (hl:s.length≤1000000):CallOk Tryz.prog 119 [vS (bsO s)] (lookM []) (vL eN (splS s)) []:=by
 refine cG qf119 rfl (nB rfl) rfl (E rfl (B.nilS (enc:=eN) rfl) (E rfl (B.adopt 4 1 9 rfl rfl) (l4 (fun (i:Nat) (f:Nat) (v:Nat) (out:List (List UInt8))=>[(0,vS (bsO s)),(3,.aref 4 v),(4,vI f),(5,vI i)]) (fun _ _ v out=>[(4,.arr v 1 9 (List.map eN out))]) (fun i f _ out=>SplI s i f out) (fun i _ _ _=>s.length+1-i) 0 0 0 [] rfl ?_ (sb rfl rfl rfl) ?_)))
 · exact splI0 s
 intro i f v out hI0
 refine E rfl (B.lenB (a:=s) rfl un9) (Cp rfl rfl (fun h1=>?_) (fun h1=>?_))
 ·have hsp:=spl_at hI0 h1
  refine E rfl (B.lenB (a:=s) rfl un9) (Eg rfl rfl (fun hc=>B.move rfl) rfl (Eg rfl rfl (fun hc=>B.move rfl) rfl (Eg rfl rfl (fun hc=>B.sidx (i:=i) (ev1_gd rfl hc) (ev1_gd rfl hc) un9 rfl (show i<s.length from (by first|omega|(have hc2:=hc;simp at hc2;omega)|(simp only[List.length_append,List.length_cons,List.length_nil,List.length_take,List.length_drop];omega)))) rfl (Eg rfl rfl (fun hc=>B.eql (ev1_gd rfl hc) rfl) rfl (E rfl (B.pick rfl rfl rfl rfl (gdB rfl) (pick_or _)) (Cb rfl rfl (fun h2=>?_) (fun h2=>?_)))))))
  ·refine E rfl (B.slMB (a:=s) (i:=f) (j:=i) rfl rfl rfl un9 rfl rfl (by first|omega|(have hc2:=hc;simp at hc2;omega)|(simp only[List.length_append,List.length_cons,List.length_nil,List.length_take,List.length_drop];omega)) (by first|omega|(have hc2:=hc;simp at hc2;omega)|(simp only[List.length_append,List.length_cons,List.length_nil,List.length_take,List.length_drop];omega))) (E rfl (B.runZ (val:=.pv (.slice (List.map eN [(List.drop f (List.take i s))]))) rfl (fun l=>Frz.arr l _ _ _ _ _) rfl) (E rfl (B.append rfl rfl rfl un73 in9 rfl (fun _=>rfl) by9 (by first|omega|(have hc2:=hc;simp at hc2;omega)|(simp only[List.length_append,List.length_cons,List.length_nil,List.length_take,List.length_drop];omega))) (E rfl (B.add rfl rfl (by unfold R64;omega)) (E rfl (B.add rfl rfl (by unfold R64;omega)) (pk rfl (L4 (i+1) (i+1) (v+1) (out++[(List.drop f (List.take i s))]) ?_ ?_ (sb rfl rfl rfl)))))))
   · first|exact spl_stepY hI0 h1 h2|exact spl_stepN hI0 h1 h2
   · omega
  ·refine E rfl (B.add rfl rfl (by unfold R64;omega)) (pk rfl (L4 (i+1) f v out ?_ ?_ (sb rfl rfl rfl)))
   · first|exact spl_stepY hI0 h1 h2|exact spl_stepN hI0 h1 h2
   · omega
 ·exact Fz 9 3 rfl rfl rfl (Rt rfl (leaf (val0:=vL eN out) (by kernel_rfl) (lsl (by exact spl_out hI0 h1))))
theorem w39 (l:List Fld) (hl:l.length≤1000) (hb:∀ f∈l,f.1.length≤1000000∧f.2.length≤1000000):CallOk Tryz.prog 39 [vL eF l] (lookM []) (vS (bsO (prtF l))) []:=by
 refine cG qf39 rfl (nB rfl) rfl (l2 (fun (k:Nat) (q:List UInt8)=>[(0,vL eF l),(3,vS (bsO q)),(4,vI k)]) (fun _ _=>[]) (fun k q=>k≤l.length∧q=prtK l k) (fun k _=>l.length-k) 0 [] rfl ?_ (sb rfl rfl rfl) ?_)
 · exact⟨Nat.zero_le _,rfl⟩
 intro k q hI0
 refine E rfl (B.lenL rfl un60) (Cp rfl rfl (fun h1=>?_) (fun h1=>?_))
 ·have hkb:=hb _ (getD_mem (l:=l) (k:=k) (z:=([],[])) (by omega))
  have hpl:=prtK_len l 1000000 hb k (by omega)
  rw[←hI0.2] at hpl
  have hpl2:q.length≤1000*(2*1000000+2):=Nat.le_trans hpl (Nat.mul_le_mul_right _ (by omega))
  refine Cp rfl rfl (fun h2=>?_) (fun h2=>?_)
  ·refine E rfl (B.catB (a:=q) (b:=[32]) rfl rfl (by first|omega|(simp only[List.length_append,List.length_cons,List.length_nil];omega))) (E rfl (B.idx (z:=([],[])) (i:=k) rfl rfl un60 sz175 (fun _=>rfl) rfl (by omega)) (E rfl (B.catB (a:=(q++[32])) (b:=(List.getD l k ([],[])).1) rfl rfl (by first|omega|(simp only[List.length_append,List.length_cons,List.length_nil];omega))) (E rfl (B.catB (a:=((q++[32])++(List.getD l k ([],[])).1)) (b:=[61]) rfl rfl (by first|omega|(simp only[List.length_append,List.length_cons,List.length_nil];omega))) (E rfl (B.idx (z:=([],[])) (i:=k) rfl rfl un60 sz175 (fun _=>rfl) rfl (by omega)) (E rfl (B.catB (a:=(((q++[32])++(List.getD l k ([],[])).1)++[61])) (b:=(List.getD l k ([],[])).2) rfl rfl (by first|omega|(simp only[List.length_append,List.length_cons,List.length_nil];omega))) (Dr rfl (by kernel_rfl) (E rfl (B.add rfl rfl (by unfold R64;omega)) (pk rfl (L2 (k+1) ((((q++[32])++(List.getD l k ([],[])).1)++[61])++(List.getD l k ([],[])).2) ?_ ?_ (sb rfl rfl rfl))))))))))
   · (refine⟨by omega,?_⟩;first|(rw[prtK,←hI0.2,decide_eq_true (by omega)];rfl)|(rw[prtK,←hI0.2,decide_eq_false (by omega)];rfl))
   · omega
  ·refine E rfl (B.idx (z:=([],[])) (i:=k) rfl rfl un60 sz175 (fun _=>rfl) rfl (by omega)) (E rfl (B.catB (a:=q) (b:=(List.getD l k ([],[])).1) rfl rfl (by first|omega|(simp only[List.length_append,List.length_cons,List.length_nil];omega))) (E rfl (B.catB (a:=(q++(List.getD l k ([],[])).1)) (b:=[61]) rfl rfl (by first|omega|(simp only[List.length_append,List.length_cons,List.length_nil];omega))) (E rfl (B.idx (z:=([],[])) (i:=k) rfl rfl un60 sz175 (fun _=>rfl) rfl (by omega)) (E rfl (B.catB (a:=((q++(List.getD l k ([],[])).1)++[61])) (b:=(List.getD l k ([],[])).2) rfl rfl (by first|omega|(simp only[List.length_append,List.length_cons,List.length_nil];omega))) (Dr rfl (by kernel_rfl) (E rfl (B.add rfl rfl (by unfold R64;omega)) (pk rfl (L2 (k+1) (((q++(List.getD l k ([],[])).1)++[61])++(List.getD l k ([],[])).2) ?_ ?_ (sb rfl rfl rfl)))))))))
   · (refine⟨by omega,?_⟩;first|(rw[prtK,←hI0.2,decide_eq_true (by omega)];rfl)|(rw[prtK,←hI0.2,decide_eq_false (by omega)];rfl))
   · omega
 ·exact Rt rfl (leaf (val0:=vS (bsO q)) (by kernel_rfl) (ls (by rw[hI0.2,show k=l.length by omega];rfl)))
end Go.Lens.Tm
end
section
namespace Go.Lens.Tm
open Go.Lens.Tb Go.Proofs
set_option linter.unusedSectionVars false
def eL (l:List Fld):List PV:=[.slice (List.map eF l)]
def cutP:List UInt8→Option Fld
 | []=>none
 | c::r=>bif decide (((c.toNat:Nat):Int)=61) then some ([],r) else (cutP r).map fun f=>(c::f.1,f.2)
theorem cutP_at:∀ (p:List UInt8) (a:Nat),a≤p.length→(∀ j,j<a→¬((p.getD j 0).toNat:Int)=61)→
  (a=p.length→cutP p=none)∧(a<p.length→((p.getD a 0).toNat:Int)=61→cutP p=some (p.take a,p.drop (a+1)))
 | [],a,ha,_=>⟨fun _=>rfl,fun h=>by simp at h⟩
 | c::r,0,_,_=>by
  refine⟨fun h=>by simp at h,fun _ h=>?_⟩
  have h:((c.toNat:Nat):Int)=61:=h
  simp[cutP,h]
 | c::r,a+1,ha,hn=>by
  have h0:¬((c.toNat:Nat):Int)=61:=hn 0 (by omega)
  have ih:=cutP_at r a (by simpa using ha) fun j hj=>by simpa using hn (j+1) (by omega)
  simp only[cutP,decide_eq_false h0,cond_false]
  refine⟨fun h=>?_,fun h1 h2=>?_⟩
  ·rw[ih.1 (by simpa using h)];rfl
  ·rw[ih.2 (by simpa using h1) (by simpa using h2)];rfl
def parGo:List (List UInt8)→Option (List Fld)
 | []=>some []
 | p::r=>match cutP p with
  | none=>none
  | some f=>(parGo r).map (f::·)
def parF (s:List UInt8):List Fld×Int:=if s=[] then ([],0) else match parGo (splS s) with
 | none=>([],25)
 | some l=>if chkFl l=0 then (l,0) else ([],chkFl l)
theorem par_none {P:List (List UInt8)} {k:Nat} {out:List Fld} (hI:parGo P=(parGo (P.drop k)).map (out++·)) (hk:k<P.length) (h:cutP (P.getD k [])=none):parGo P=none:=by
 rw[hI,drop_at P k [] hk,parGo,h];rfl
theorem par_some {P:List (List UInt8)} {k:Nat} {out:List Fld} {f:Fld} (hI:parGo P=(parGo (P.drop k)).map (out++·)) (hk:k<P.length) (h:cutP (P.getD k [])=some f):parGo P=(parGo (P.drop (k+1))).map ((out++[f])++·):=by
 rw[hI,drop_at P k [] hk,parGo,h]
 simp only[Option.map_map]
 congr 1
 funext r;simp
theorem par_end {P:List (List UInt8)} {k:Nat} {out:List Fld} (hI:parGo P=(parGo (P.drop k)).map (out++·)) (hk:P.length≤k):parGo P=some out:=by
 rw[hI,List.drop_eq_nil_of_le hk];simp[parGo]
theorem cut_q {p:List UInt8} {a:Nat} {b:Bool} (h:(bif decide (((a:Nat):Int)<((List.length p:Nat):Int)) then decide ((byteAt (bsO p) a)≠61) else false)=b) :
 (b=true→a<p.length∧¬((p.getD a 0).toNat:Int)=61)∧(b=false→a<p.length→((p.getD a 0).toNat:Int)=61):=by
 have e:byteAt (bsO p) a=((p.getD a 0).toNat:Int):=rfl
 rw[e] at h
 by_cases hk:a<p.length
 ·rw[decide_eq_true (by omega),cond_true] at h
  subst h
  exact⟨fun h=>⟨hk,of_decide_eq_true h⟩,fun h _=>Decidable.not_not.1 (of_decide_eq_false h)⟩
 ·rw[decide_eq_false (by omega),cond_false] at h
  subst h
  exact⟨fun h=>(by cases h),fun _ h=>absurd h hk⟩
theorem spl_len (s:List UInt8):∀ acc:List UInt8,(splGo acc s).length≤s.length+1:=by
 induction s with
 | nil=>intro acc;simp[splGo]
 | cons c r ih=>
  intro acc
  simp only[splGo]
  cases decide (((c.toNat:Nat):Int)=32) with
  | true=>have:=ih [];simp only[cond_true,List.length_cons];omega
  | false=>have:=ih (acc++[c]);simp only[cond_false,List.length_cons];omega
theorem spl_part:∀ (s acc:List UInt8) (p:List UInt8),p∈splGo acc s→p.length≤acc.length+s.length
 | [],acc,p,h=>by
  simp only[splGo,List.mem_singleton] at h
  subst h;simp
 | c::r,acc,p,h=>by
  simp only[splGo] at h
  cases hq:decide (((c.toNat:Nat):Int)=32) with
  | true=>
   rw[hq,cond_true] at h
   rcases List.mem_cons.1 h with rfl|h
   ·omega
   ·have:=spl_part r [] p h;simp only[List.length_cons,List.length_nil] at this ⊢;omega
  | false=>
   rw[hq,cond_false] at h
   have:=spl_part r (acc++[c]) p h
   simp only[List.length_append,List.length_cons,List.length_nil] at this ⊢;omega
theorem parF_nil {s:List UInt8} (h:s=[]):parF s=([],0):=by unfold parF;rw[if_pos h]
theorem parF_none {s:List UInt8} (h:¬s=[]) (h2:parGo (splS s)=none):parF s=([],25):=by unfold parF;rw[if_neg h,h2]
theorem parF_bad {s:List UInt8} {l:List Fld} (h:¬s=[]) (h2:parGo (splS s)=some l) (h3:chkFl l≠0):parF s=([],chkFl l):=by
 unfold parF;rw[if_neg h,h2]
 show (if chkFl l=0 then _ else _)=_
 rw[if_neg h3]
theorem parF_ok {s:List UInt8} {l:List Fld} (h:¬s=[]) (h2:parGo (splS s)=some l) (h3:¬chkFl l≠0):parF s=(l,0):=by
 unfold parF;rw[if_neg h,h2]
 show (if chkFl l=0 then _ else _)=_
 rw[if_pos (Decidable.not_not.1 h3)]
def rmGo (B M T:List Fld):List (List UInt8)→List Fld×List (List UInt8)
 | []=>([],[])
 | x::l=>
  let r:=rmGo B M T l
  let g:=if getF x M=getF x T then getF x M else if getF x M=getF x B then getF x T else getF x M
  (if g.isSome then (x,g.getD [])::r.1 else r.1,if getF x M=getF x T∨getF x M=getF x B∨getF x T=getF x B then r.2 else x::r.2)
def refNm (A:List Fld):List (List UInt8):=A.foldl (fun n f=>insS f.1 n) []
def refM (B M T:List Fld):List Fld×List (List UInt8):=
 if 0<(rmGo B M T (refNm (B++M++T))).2.length then ([],(rmGo B M T (refNm (B++M++T))).2) else ((rmGo B M T (refNm (B++M++T))).1,[])
def mfG (e:Int) (r:List Fld×List (List UInt8)):List Fld×List (List UInt8)×Int:=
 if e≠0 then ([],[],e) else if 0<r.2.length then ([],r.2,29) else if 24<r.1.length then ([],[],5) else (r.1,[],0)
end Go.Lens.Tm
end
section
namespace Go.Lens.Tm
open Go.Lens.Tb Go.Proofs
variable [Lz]
set_option linter.unusedSectionVars false
set_option maxHeartbeats 4000000
set_option maxRecDepth 100000
attribute [local irreducible] TK PK T RG EfR Body CG
theorem w40 (s:List UInt8) (hl:s.length≤1000000):CallOk Tryz.prog 40 [vS (bsO s)] (lookM []) (.tup [vL eF (parF s).1,vI (parF s).2]) []:=by
 refine cG qf40 rfl (nB rfl) rfl ?_
 have hsl:(splS s).length≤s.length+1:=spl_len s []
 refine E rfl (B.nilS (enc:=eF) rfl) (E rfl (B.seqB (a:=s) (b:=[]) rfl rfl) (Cp rfl rfl (fun h1=>?_) (fun h1=>?_)))
 ·exact E rfl (B.nilS (enc:=eF) rfl) (Rt rfl (leaf (val0:=.tup [vL eF [],vI 0]) (by kernel_rfl) (tup2 (lsl (by rw[parF_nil h1])) (li (by rw[parF_nil h1])))))
 ·refine C rfl (w119 s (by omega)) rfl rfl rfl (E rfl (B.adopt 6 2 175 rfl rfl) (l3 (fun (k:Nat) (v:Nat) (out:List Fld)=>[(4,vL eN (splS s)),(5,.aref 6 v),(6,vI k)]) (fun _ v out=>[(6,.arr v 2 175 (List.map eF out))]) (fun k _ out=>k≤List.length (splS s)∧out.length=k∧parGo (splS s)=Option.map (fun r=>out++r) (parGo (List.drop k (splS s)))) (fun k _ _=>List.length (splS s)-k) 0 0 [] rfl ?_ (sb rfl rfl rfl) ?_))
  · exact⟨Nat.zero_le _,rfl,by simp⟩
  intro k v out hI0
  refine E rfl (B.lenL rfl un73) (Cp rfl rfl (fun h2=>?_) (fun h2=>?_))
  ·have hpl:=spl_part s [] _ (getD_mem (l:=splS s) (k:=k) (z:=[]) (by omega))
   simp only[List.length_nil,Nat.zero_add] at hpl
   refine l1 (fun (a:Nat)=>[(4,vL eN (splS s)),(5,.aref 6 v),(6,vI k),(7,vI a)]) (fun _=>[(6,.arr v 2 175 (List.map eF out))]) (fun a=>a≤List.length (List.getD (splS s) k [])∧∀ j,j<a→¬(((List.getD (List.getD (splS s) k []) j 0).toNat:Nat):Int)=61) (fun a=>List.length (List.getD (splS s) k [])-a) 0 rfl ?_ (sb rfl rfl rfl) ?_
   · exact⟨Nat.zero_le _,fun j hj=>by omega⟩
   intro a hI1
   refine E rfl (B.idx (z:=[]) (i:=k) rfl rfl un73 sz9 (fun _=>rfl) rfl (by omega)) (E rfl (B.lenB (a:=(List.getD (splS s) k [])) rfl un9) (Eg rfl rfl (fun hc=>B.move rfl) rfl (Eg rfl rfl (fun hc=>B.move rfl) rfl (Eg rfl rfl (fun hc=>B.idx (z:=[]) (i:=k) (ev1_gd rfl hc) (ev1_gd rfl hc) un73 sz9 (fun _=>rfl) rfl (by omega)) rfl (Eg rfl rfl (fun hc=>B.loadP (ev1_gd rfl hc) ag9 sz9) rfl (Eg rfl rfl (fun hc=>B.move rfl) rfl (Eg rfl rfl (fun hc=>B.sidx (i:=a) (ev1_gd rfl hc) (ev1_gd rfl hc) un9 rfl (show a<List.length (List.getD (splS s) k []) from (by (have hc2:=hc;simp only[beq_iff_eq,decide_eq_true_eq,decide_eq_false_iff_not] at hc2;omega)))) rfl (Eg rfl rfl (fun hc=>B.neq (ev1_gd rfl hc) rfl) rfl (E rfl (B.pick rfl rfl rfl (gdB rfl) rfl (pick_and _)) (Cb rfl rfl (fun h3=>?_) (fun h3=>?_)))))))))))
   ·refine E rfl (B.add rfl rfl (by unfold R64;omega)) (pk rfl (L1 (a+1) ?_ ?_ (sb rfl rfl rfl)))
    · (obtain⟨hq1,hq2⟩:=(cut_q h3).1 rfl;refine⟨by omega,fun j hj=>?_⟩;rcases Nat.lt_succ_iff_lt_or_eq.1 hj with h|h;exact hI1.2 j h;subst h;exact hq2)
    · (have hq1:=((cut_q h3).1 rfl).1;omega)
   ·refine E rfl (B.idx (z:=[]) (i:=k) rfl rfl un73 sz9 (fun _=>rfl) rfl (by omega)) (E rfl (B.lenB (a:=(List.getD (splS s) k [])) rfl un9) (Cp rfl rfl (fun h4=>?_) (fun h4=>?_)))
    ·exact E rfl (B.nilS (enc:=eF) rfl) (Rt rfl (leaf (val0:=.tup [vL eF [],vI 25]) (by kernel_rfl) (tup2 (lsl (by rw[parF_none h1 (par_none hI0.2.2 (by omega) ((cutP_at _ a hI1.1 hI1.2).1 (by omega)))])) (li (by rw[parF_none h1 (par_none hI0.2.2 (by omega) ((cutP_at _ a hI1.1 hI1.2).1 (by omega)))])))))
    ·refine E rfl (B.idx (z:=[]) (i:=k) rfl rfl un73 sz9 (fun _=>rfl) rfl (by omega)) (E rfl (B.slHB (a:=(List.getD (splS s) k [])) (j:=a) rfl rfl un9 rfl (by omega)) (E rfl (B.idx (z:=[]) (i:=k) rfl rfl un73 sz9 (fun _=>rfl) rfl (by omega)) (E rfl (B.add rfl rfl (by unfold R64;omega)) (E rfl (B.slLB (a:=(List.getD (splS s) k [])) (i:=(a+1)) rfl rfl un9 (by omega) (by omega)) (E rfl (B.runZ (val:=.pv (.slice (List.map eF [((List.take a (List.getD (splS s) k [])),(List.drop (a+1) (List.getD (splS s) k [])))]))) rfl (fun l=>Frz.arr l _ _ _ _ _) rfl) (E rfl (B.append rfl rfl rfl un60 in175 rfl (fun _=>rfl) by175 (by (simp only[List.length_append,List.length_cons,List.length_nil,List.length_take,List.length_drop];omega))) (Dr rfl (by kernel_rfl) (E rfl (B.add rfl rfl (by unfold R64;omega)) (pk rfl (L3 (k+1) (v+1) (out++[((List.take a (List.getD (splS s) k [])),(List.drop (a+1) (List.getD (splS s) k [])))]) ?_ ?_ (sb rfl rfl rfl)))))))))))
     · (refine⟨by omega,by simp only[List.length_append,List.length_cons,List.length_nil];omega,?_⟩;exact par_some hI0.2.2 (by omega) ((cutP_at _ a hI1.1 hI1.2).2 (by omega) ((cut_q h3).2 rfl (by omega))))
     · omega
  ·have hpe:=par_end hI0.2.2 (by omega)
   refine Fz 14 5 rfl rfl rfl (C rfl (w38 out (by omega)) rfl rfl rfl (Cp rfl rfl (fun h5=>?_) (fun h5=>?_)))
   ·exact E rfl (B.nilS (enc:=eF) rfl) (Rt rfl (leaf (val0:=.tup [vL eF [],vI (chkFl out)]) (by kernel_rfl) (tup2 (lsl (by rw[parF_bad h1 hpe (by assumption)])) (li (by rw[parF_bad h1 hpe (by assumption)])))))
   ·exact Rt rfl (leaf (val0:=.tup [vL eF out,vI 0]) (by kernel_rfl) (tup2 (lsl (by rw[parF_ok h1 hpe (by assumption)])) (li (by rw[parF_ok h1 hpe (by assumption)]))))
end Go.Lens.Tm
end
section
namespace Go.Lens.Tm
open Go.Lens.Tb Go.Proofs
set_option linter.unusedSectionVars false
variable [Lz]
theorem fGo_all {l:List Fld}:∀ (n i:Nat),i+n=l.length→fGo l n i=0→∀ j,i≤j→j<l.length→fOne l j=0
 | 0,i,hn,_,j,h1,h2=>by omega
 | n+1,i,hn,h,j,h1,h2=>by
  simp only[fGo] at h
  split at h
  ·rename_i h0
   by_cases hij:j=i
   ·subst hij;exact h0
   ·exact fGo_all n (i+1) (by omega) h j (by omega) h2
  ·rename_i h0;exact absurd h h0
theorem chk_parts {l:List Fld} (h:chkFl l=0):l.length≤24∧∀ j,j<l.length→chkF (l.getD j ([],[]))=0∧ordB l j=false:=by
 unfold chkFl at h
 by_cases hl:24<l.length
 ·rw[decide_eq_true hl] at h;cases h
 ·rw[decide_eq_false hl] at h
  refine⟨by omega,fun j hj=>?_⟩
  have:=fGo_all l.length 0 (by omega) h j (by omega) hj
  unfold fOne at this
  split at this
  ·rename_i h0
   refine⟨h0,?_⟩
   cases ho:ordB l j with
   | false=>rfl
   | true=>rw[ho] at this;cases this
  ·rename_i h0;exact absurd this h0
theorem chkF_len {f:Fld} (h:chkF f=0):f.1.length≤24∧f.2.length≤60:=by
 unfold chkF at h
 cases hn:isNameF (bsO f.1) with
 | false=>rw[hn] at h;cases h
 | true=>
  rw[hn] at h
  by_cases hc:60<f.2.length
  ·rw[decide_eq_true hc] at h;cases h
  ·refine⟨?_,by omega⟩
   by_cases hz:24<f.1.length
   ·rw[isName_len (s:=bsO f.1) (.inr hz)] at hn;cases hn
   ·omega
theorem mem_getD {α:Type} {l:List α} {a:α} (z:α) (h:a∈l):∃ j,j<l.length∧l.getD j z=a:=by
 obtain⟨j,hj,rfl⟩:=List.getElem_of_mem h
 exact⟨j,hj,by rw[List.getD_eq_getElem?_getD,List.getElem?_eq_getElem hj];rfl⟩
end Go.Lens.Tm
end
section
namespace Go.Lens
set_option linter.unusedSectionVars false
variable [Lz]
section
variable {P:Program} {Y:Tab} [TabOk P Y] {nb:Nat} {s:St} {dst:Option Tmp} {ty u:TypeId} {pos:String} {af:Array Edge} {gd:Option (Nat×Bool)} {t:TypeId} {x y z:Operand}
theorem B.idxE {α:Type} {enc:α→List PV} {l:List α} {h v sz n:Nat} {k:IntKind} {m:Int} {e T:TypeId} (hx:ev1 s x=.aref h v) (hm:lookM s.ms h=some (.arr v sz T (l.map enc))) (hy:ev1 s y=lit (.int k m)) (und:Y.underlying t=some (.slice e)) (hs:szT Y e=some sz)
  (hn:m=(n:Int)) (hlt:n<l.length):Body P Y nb s ⟨dst,.indexAddr t x y,ty,pos,af,gd⟩ (.eref h v n 0) [] [h]:=by
 refine .inr (SBody.of fun σ G a w hv hl I=>?_)
 have hX:=hv x (by simp[Op.operands])
 have hY:=hv y (by simp[Op.operands])
 rw[hx] at hX;rw[hy] at hY
 have hlk:lookM σ.ms h=some (.arr v sz T (l.map enc)):=by rw[hl h (.inl (by simp))];exact hm
 have hq:indexAddrW Y t (lookM σ.ms) (.aref h v) (lit (.int k m))=some (true,.eref h v n 0):=by
  show indexAddrQ Y t (lookM σ.ms) (.aref h v) (lit (.int k m))=_
  unfold indexAddrQ lit
  subst hn
  have:decide ((0:Int)≤(n:Int)∧(n:Int)<((l.map enc).length:Int))=true:=decide_eq_true ⟨by omega,by rw[List.length_map];omega⟩
  simp only[und,hs,hlk,and_self,if_true,this,Int.toNat_natCast]
 obtain⟨r,h1,h2⟩:=indexAddrW_sound (P:=P) I.ctxS.sees hq hX hY
 refine⟨r,w,G,.inl ?_,stepped_same I.ctxS h2 (fun k hk=>?_)⟩
 ·simp only[execOp,Sem.run_bind,h1,Result.andThen_ok,Sem.run_pure]
 ·simp only[DV.refs,List.mem_singleton] at hk;subst hk;exact⟨_,hlk⟩
theorem B.setE {α:Type} {enc:α→List PV} {l:List α} {z0:α} {p:PV} {h v n:Nat} {T:TypeId} (hx:ev1 s x=.eref h v n 0) (hm:lookM s.ms h=some (.arr v 1 T (l.map enc))) (hy:ev1 s y=.pv p) (hz:enc z0=[p]) (hc:cellsPV p=[p])
  (hs:szT Y t=some 1) (hlt:n<l.length) (hsz:∀ a,(enc a).length=1):Body P Y nb s ⟨dst,.store t x y,ty,pos,af,gd⟩ .dead [(h,.arr v 1 T ((l.set n z0).map enc))] [h]:=by
 refine .inr (SBody.of fun σ G a w hv hl I=>?_)
 have hX:=hv x (by simp[Op.operands])
 have hY:=hv y (by simp[Op.operands])
 rw[hx] at hX;rw[hy] at hY
 have hlk:lookM σ.ms h=some (.arr v 1 T (l.map enc)):=by rw[hl h (.inl (by simp))];exact hm
 have C:Ctx G w (fun z=>match z with| .tmp 0=>a.eval x| .tmp 1=>a.eval y|_=>undef) (fun z=>match z with| .tmp 0=>.eref h v n 0| .tmp 1=>.pv p|_=>.dead) (lookM σ.ms) (lookM σ.ms):=by
  refine I.mem.ctx2 (fun z=>?_) (fun z k hk=>?_)
  ·split
   ·exact hX
   ·exact hY
   ·simp only[RelDV]
  ·split at hk
   ·simp only[DV.refs,List.mem_singleton] at hk;subst hk;exact⟨_,hlk⟩
   ·simp[DV.refs] at hk
   ·simp[DV.refs] at hk
 have hcv:storeV Y t (.eref h v n 0) (.pv p) (lookM σ.ms)=some ⟨true,.dead,[(h,.arr v 1 T ((l.set n z0).map enc))]⟩:=by
  unfold storeV
  have hp:pvOf (lookM σ.ms) (.pv p)=some p:=rfl
  have hg:(l.map enc).getD n []=enc (l[n]'hlt):=by rw[List.getD_eq_getElem?_getD,List.getElem?_map,List.getElem?_eq_getElem hlt];rfl
  have hd:(enc (l[n]'hlt)).drop 1=[]:=List.drop_eq_nil_of_le (by rw[hsz];omega)
  have hdec:decide (n<(l.map enc).length∧0+1≤1)=true:=decide_eq_true ⟨by rw[List.length_map];exact hlt,by omega⟩
  simp only[hs,hlk,hp,hc,List.length_cons,List.length_nil,and_self,if_true,hg,List.take_zero,List.nil_append,Nat.zero_add,hd,List.append_nil,List.map_set,hz]
  have hdec2:decide (n<(l.map enc).length∧1≤1)=true:=hdec
  simp only[List.length_map] at hdec2
  simp[hlt]
 obtain⟨w',G',h1,h2⟩:=storeV_sound (P:=P) C (t:=t) (a:=.tmp 0) (x:=.tmp 1) hcv rfl
 refine⟨undef,w',G',.inr ⟨?_,rfl⟩,h2⟩
 have lift:∀ {q:Sem Unit} {w':World},q.run P w=.ok () w'→(do q;Pure.pure Next.skip:Sem Next).run P w=.ok .skip w':=by
  intro q w' h
  simp only[Sem.run_bind,h,Result.andThen_ok,Sem.run_pure]
 exact lift (q:=Instr.storeAt _ _ _) h1
theorem B.lenB1 {c:UInt8} {at':TypeId} (hx:ev1 s x=lit (.string (bsO [c]))) (hu:Y.underlying at'=some .string):Body P Y nb s ⟨dst,.call ⟨.builtin .len,⟨[x]⟩,⟨[at']⟩⟩,ty,pos,af,gd⟩ (lit (.int .i64 1)) [] []:=B.lenB hx hu
end
end Go.Lens
end
section
namespace Go.Lens.Tm
open Go.Lens.Tb Go.Proofs
set_option linter.unusedSectionVars false
variable [Lz]
theorem u8_back (c:UInt8):(((c.toNat:Nat):Int)).toNat.toUInt8=c:=by simp
theorem w310 (hp:PowLaid) (s:List UInt8) (c:UInt8):CallOk Tryz.prog 310 [vS (bsO s),.pv (.lit (.int .u8 ((c.toNat:Nat):Int)))] (lookM []) (vI (Lib.indexByte s c)) []:=by
 have h:extO ext 310 0 [vS (bsO s),.pv (.lit (.int .u8 ((c.toNat:Nat):Int)))] []=some (lit (.int .i64 (Lib.indexByte (bsO s).data.toList (((c.toNat:Nat):Int)).toNat.toUInt8)),[]):=rfl
 rw[u8_back] at h
 exact extO_ok (ext_ok hp) _ _ _ _ _ _ h
theorem w287 (hp:PowLaid) (s:List UInt8) (c:UInt8):CallOk Tryz.prog 287 [vS (bsO s),.pv (.lit (.int .u8 ((c.toNat:Nat):Int)))] (lookM []) (vI ((List.count c s:Nat):Int)) []:=by
 have h:extO ext 287 0 [vS (bsO s),.pv (.lit (.int .u8 ((c.toNat:Nat):Int)))] []=some (lit (.int .i64 (Lib.countByte (bsO s).data.toList (((c.toNat:Nat):Int)).toNat.toUInt8)),[]):=rfl
 rw[u8_back] at h
 exact extO_ok (ext_ok hp) _ _ _ _ _ _ h
theorem ix_nat:∀ {s:List UInt8} {c:UInt8},0≤Lib.indexByte s c→∃ n:Nat,Lib.indexByte s c=(n:Int)∧n<s.length∧s.getD n 0=c∧∀ j,j<n→s.getD j 0≠c
 | [],c,h=>by simp[Lib.indexByte] at h
 | b::l,c,h=>by
  simp only[Lib.indexByte] at h ⊢
  by_cases hb:(b==c)=true
  ·rw[if_pos hb]
   exact⟨0,rfl,by simp,by simpa using hb,fun j hj=>by omega⟩
  ·rw[if_neg hb] at h ⊢
   by_cases h1:(Lib.indexByte l c== -1)=true
   ·rw[if_pos h1] at h;omega
   ·rw[if_neg h1] at h ⊢
    have hge:=Lib.indexByte_ge l c
    have hne:Lib.indexByte l c≠ -1:=by simpa using h1
    obtain⟨n,e,k1,k2,k3⟩:=ix_nat (s:=l) (c:=c) (by omega)
    refine⟨n+1,by rw[e];rfl,by simpa using k1,by simpa using k2,fun j hj=>?_⟩
    cases j with
    | zero=>simpa using hb
    | succ j=>simpa using k3 j (by omega)
theorem ix_neg:∀ {s:List UInt8} {c:UInt8},Lib.indexByte s c<0→c∉s
 | [],c,_=>by simp
 | b::l,c,h=>by
  simp only[Lib.indexByte] at h
  by_cases hb:(b==c)=true
  ·rw[if_pos hb] at h;omega
  ·rw[if_neg hb] at h
   by_cases h1:(Lib.indexByte l c== -1)=true
   ·have e:Lib.indexByte l c= -1:=by simpa using h1
    have:=ix_neg (s:=l) (c:=c) (by omega)
    have hb':b≠c:=by simpa using hb
    simp only[List.mem_cons,not_or]
    exact⟨fun e=>hb' e.symm,this⟩
   ·rw[if_neg h1] at h
    have:=Lib.indexByte_ge l c
    have hne:Lib.indexByte l c≠ -1:=by simpa using h1
    omega
theorem ix_self {s:List UInt8} {c:UInt8} (h:(bif decide ((1:Int)=0) then true else decide ([c]=s))=true):(0:Int)=Lib.indexByte s c:=by
 have:[c]=s:=by simpa using h
 subst this
 simp[Lib.indexByte]
def cut3 (s:List UInt8) (c:UInt8):List UInt8×List UInt8×Bool:=if Lib.indexByte s c<0 then (s,[],false) else (s.take (Lib.indexByte s c).toNat,s.drop ((Lib.indexByte s c).toNat+1),true)
theorem cut3_no {s:List UInt8} {c:UInt8} (h:¬0≤Lib.indexByte s c):cut3 s c=(s,[],false):=by unfold cut3;exact if_pos (by omega)
theorem cut3_yes {s:List UInt8} {c:UInt8} {n:Nat} (h:Lib.indexByte s c=(n:Int)):cut3 s c=(s.take n,s.drop (n+1),true):=by
 unfold cut3;rw[h,if_neg (by omega),Int.toNat_natCast]
theorem cutP_cut3 (p:List UInt8):((cut3 p 61).2.2=true→cutP p=some ((cut3 p 61).1,(cut3 p 61).2.1))∧((cut3 p 61).2.2=false→cutP p=none):=by
 have c61:∀ b:UInt8,((b.toNat:Nat):Int)=61↔b=61:=fun b=>by
  constructor
  ·intro h;exact UInt8.toNat_inj.1 (by have e:(61:UInt8).toNat=61:=rfl;omega)
  ·rintro rfl;rfl
 by_cases h:0≤Lib.indexByte p 61
 ·obtain⟨n,e,k1,k2,k3⟩:=ix_nat h
  rw[cut3_yes e]
  refine⟨fun _=>?_,fun h=>by cases h⟩
  exact (cutP_at p n (by omega) fun j hj hq=>k3 j hj ((c61 _).1 hq)).2 k1 ((c61 _).2 k2)
 ·rw[cut3_no h]
  refine⟨fun h=>(by cases h),fun _=>?_⟩
  have hn:=ix_neg (s:=p) (c:=61) (by omega)
  exact (cutP_at p p.length (Nat.le_refl _) fun j hj hq=>hn (by have:=(c61 _).1 hq;rw[←this];exact getD_mem hj)).1 rfl
theorem c32 (b:UInt8):((b.toNat:Nat):Int)=32↔b=32:=by
 constructor
 ·intro h;exact UInt8.toNat_inj.1 (by have e:(32:UInt8).toNat=32:=rfl;omega)
 ·rintro rfl;rfl
theorem splGo_none:∀ (s acc:List UInt8),32∉s→splGo acc s=[acc++s]
 | [],acc,_=>by simp[splGo]
 | b::r,acc,h=>by
  simp only[List.mem_cons,not_or] at h
  simp only[splGo]
  rw[decide_eq_false (p:=((b.toNat:Nat):Int)=32) (fun e=>h.1 ((c32 b).1 e).symm),cond_false,splGo_none r _ h.2];simp
theorem splGo_at:∀ (s acc:List UInt8) (n:Nat),n<s.length→s.getD n 0=32→(∀ j,j<n→s.getD j 0≠32)→splGo acc s=(acc++s.take n)::splGo [] (s.drop (n+1))∧List.count 32 s=List.count 32 (s.drop (n+1))+1
 | [],_,n,h,_,_=>by simp at h
 | b::r,acc,0,_,h,_=>by
  have hb:b=32:=h
  subst hb
  simp only[splGo]
  exact⟨by simp,by simp⟩
 | b::r,acc,n+1,h1,h2,h3=>by
  have hb:b≠32:=h3 0 (by omega)
  obtain⟨k1,k2⟩:=splGo_at r (acc++[b]) n (by simpa using h1) (by simpa using h2) fun j hj=>by simpa using h3 (j+1) (by omega)
  simp only[splGo]
  rw[decide_eq_false (p:=((b.toNat:Nat):Int)=32) (fun e=>hb ((c32 b).1 e)),cond_false,k1]
  exact⟨by simp,by rw[List.count_cons_of_ne hb];simpa using k2⟩
def GsI (s:List UInt8) (n2 i:Nat) (a:List (List UInt8)) (q:List UInt8):Prop:=a.length=n2∧q.length≤s.length∧i+List.count 32 q+1=n2∧splS s=a.take i++splS q
theorem gs_step {s q:List UInt8} {n2 i m:Nat} {a:List (List UInt8)} (h:GsI s n2 i a q) (e:Lib.indexByte q 32=(m:Int)) (hm:m<q.length) (h2:q.getD m 0=32) (h3:∀ j,j<m→q.getD j 0≠32):GsI s n2 (i+1) (a.set i (q.take m)) (q.drop (m+1)):=by
 obtain⟨k1,k2,k3,k4⟩:=h
 obtain⟨g1,g2⟩:=splGo_at q [] m hm h2 h3
 refine⟨by rw[List.length_set];exact k1,by rw[List.length_drop];omega,by omega,?_⟩
 have hi:i<a.length:=by omega
 rw[k4]
 unfold splS
 rw[g1,List.take_add_one,List.getElem?_set_self hi,List.take_set_of_le (Nat.le_refl _)]
 simp
theorem gs_end {s q:List UInt8} {n2 i:Nat} {a:List (List UInt8)} (h:GsI s n2 i a q) (hq:32∉q):(a.set i q).take (i+1)=splS s:=by
 obtain⟨k1,k2,k3,k4⟩:=h
 have hi:i<a.length:=by omega
 rw[k4]
 unfold splS
 rw[splGo_none q [] hq,List.take_add_one,List.getElem?_set_self hi,List.take_set_of_le (Nat.le_refl _)]
 rfl
theorem gs_no {s q:List UInt8} {n2 i:Nat} {a:List (List UInt8)} (h:GsI s n2 i a q) (hc:¬((i:Nat):Int)<((n2:Nat):Int)-1):32∉q:=by
 obtain⟨_,_,k3,_⟩:=h
 exact List.count_eq_zero.1 (by omega)
end Go.Lens.Tm
end
section
namespace Go.Lens.Tm
open Go.Lens.Tb Go.Proofs
variable [Lz]
set_option linter.unusedSectionVars false
set_option maxHeartbeats 4000000
set_option maxRecDepth 100000
attribute [local irreducible] TK PK T RG EfR Body CG
theorem w288 (hp:PowLaid) (s:List UInt8) (c:UInt8):CallOk Tryz.prog 288 [vS (bsO s),.pv (.lit (.int .u8 ((UInt8.toNat c:Nat):Int)))] (lookM []) (vI (Lib.indexByte s c)) []:=by
 exact cG qf288 rfl (nB rfl) rfl (C rfl (w310 hp s c) rfl rfl rfl (Rt rfl (leaf rfl rfl)))
theorem w246 (hp:PowLaid) (s:List UInt8) (c:UInt8) (hl:s.length≤1000000):CallOk Tryz.prog 246 [vS (bsO s),vS (bsO [c])] (lookM []) (vI (Lib.indexByte s c)) []:=by
 refine cG qf246 rfl (nB rfl) rfl (E rfl (B.lenB1 (c:=c) rfl un9) (Eg rfl rfl (fun hc=>B.move rfl) rfl (Eg rfl rfl (fun hc=>B.move rfl) rfl (Eg rfl rfl (fun hc=>B.seqB (a:=[c]) (b:=s) (ev1_gd rfl hc) (ev1_gd rfl hc)) rfl (E rfl (B.pick rfl rfl rfl rfl (gdB rfl) (pick_or _)) (Cb rfl rfl (fun h1=>?_) (fun h1=>?_)))))))
 ·exact Rt rfl (leaf (val0:=vI 0) (by kernel_rfl) (li (by exact ix_self h1)))
 ·exact CT rfl rfl (E rfl (B.sidx (i:=0) rfl rfl un9 rfl (show 0<List.length [c] from (by first|omega|simp))) (C rfl (w288 hp s c) rfl rfl rfl (Rt rfl (leaf rfl rfl))))
theorem w245 (hp:PowLaid) (s:List UInt8) (c:UInt8) (hl:s.length≤1000000):CallOk Tryz.prog 245 [vS (bsO s),vS (bsO [c])] (lookM []) (vI (Lib.indexByte s c)) []:=by
 exact cG qf245 rfl (nB rfl) rfl (C rfl (w246 hp s c (by omega)) rfl rfl rfl (Rt rfl (leaf rfl rfl)))
theorem w244 (hp:PowLaid) (s:List UInt8) (c:UInt8) (hl:s.length≤1000000):CallOk Tryz.prog 244 [vS (bsO s),vS (bsO [c])] (lookM []) (vI ((List.count c s:Nat):Int)) []:=by
 exact cG qf244 rfl (nB rfl) rfl (E rfl (B.lenB1 (c:=c) rfl un9) (CF rfl rfl (E rfl (B.lenB1 (c:=c) rfl un9) (CT rfl rfl (E rfl (B.sidx (i:=0) rfl rfl un9 rfl (show 0<List.length [c] from (by first|omega|simp))) (C rfl (w287 hp s c) rfl rfl rfl (Rt rfl (leaf rfl rfl))))))))
theorem w171 (hp:PowLaid) (s:List UInt8) (c:UInt8) (hl:s.length≤1000000):CallOk Tryz.prog 171 [vS (bsO s),vS (bsO [c])] (lookM []) (.tup [vS (bsO (cut3 s c).1),vS (bsO (cut3 s c).2.1),vB (cut3 s c).2.2]) []:=by
 refine cG qf171 rfl (nB rfl) rfl (C rfl (w246 hp s c (by omega)) rfl rfl rfl (Cp rfl rfl (fun h1=>?_) (fun h1=>?_)))
 ·refine tk 3 rfl ?_
  refine tn ⟨[(0,vS (bsO s)),(1,vS (bsO [c])),(7,vI (Lib.indexByte s c))],[]⟩ rfl rfl rfl ?_
  obtain⟨n,hn,hns,_,_⟩:=ix_nat h1
  rw[hn]
  exact kc (E rfl (B.slHB (a:=s) (j:=n) rfl rfl un9 rfl (by omega)) (E rfl (B.lenB1 (c:=c) rfl un9) (E rfl (B.add rfl rfl (by unfold R64;omega)) (E rfl (B.slLB (a:=s) (i:=(n+1)) rfl rfl un9 (by omega) (by omega)) (Dr rfl (by kernel_rfl) (Rt rfl (leaf (val0:=.tup [vS (bsO (List.take n s)),vS (bsO (List.drop (n+1) s)),vB true]) (by kernel_rfl) (tup3 (ls (by first|rw[cut3_yes hn]|rw[cut3_no h1])) (ls (by first|rw[cut3_yes hn]|rw[cut3_no h1])) (lb (by first|rw[cut3_yes hn]|rw[cut3_no h1]))))))))))
 ·exact Rt rfl (leaf (val0:=.tup [vS (bsO s),vS (bsO []),vB false]) (by kernel_rfl) (tup3 (ls (by first|rw[cut3_yes hn]|rw[cut3_no h1])) (ls (by first|rw[cut3_yes hn]|rw[cut3_no h1])) (lb (by first|rw[cut3_yes hn]|rw[cut3_no h1]))))
theorem w117 (hp:PowLaid) (s:List UInt8) (c:UInt8) (hl:s.length≤1000000):CallOk Tryz.prog 117 [vS (bsO s),vS (bsO [c])] (lookM []) (.tup [vS (bsO (cut3 s c).1),vS (bsO (cut3 s c).2.1),vB (cut3 s c).2.2]) []:=by
 exact cG qf117 rfl (nB rfl) rfl (C rfl (w171 hp s c (by omega)) rfl rfl rfl (Rt rfl (leaf rfl rfl)))
theorem w170 (hp:PowLaid) (s:List UInt8) (hl:s.length≤1000000):CallOk Tryz.prog 170 [vS (bsO s),vS (bsO [32]),vI 0,vI (-1)] (lookM []) (vL eN (splS s)) []:=by
 refine cG qf170 rfl (nB rfl) rfl (E rfl (B.nilS (enc:=eN) rfl) (CF rfl rfl (E rfl (B.seqB (a:=[32]) (b:=[]) rfl rfl) (CF rfl rfl (CT rfl rfl ?_)))))
 have hcl:List.count 32 s≤s.length:=List.count_le_length
 refine C rfl (w244 hp s 32 (by omega)) rfl rfl rfl (E rfl (B.add rfl rfl (by unfold R64;omega)) (E rfl (B.lenB (a:=s) rfl un9) (E rfl (B.add rfl rfl (by unfold R64;omega)) (E rfl (B.min rfl rfl) ?_))))
 refine tk 8 rfl ?_
 refine tn ⟨[(0,vS (bsO s)),(1,vS (bsO [32])),(2,vI 0),(3,vI (min (((List.count 32 s:Nat):Int)+1) ((s.length:Int)+1)))],[]⟩ rfl rfl rfl ?_
 obtain⟨n2,hn2⟩:∃ n2,n2=List.count 32 s+1:=⟨_,rfl⟩
 rw[show (min (((List.count 32 s:Nat):Int)+1) ((s.length:Int)+1))=(n2:Int) by omega]
 refine kc (E rfl (B.makeSl (enc:=eN) (sz:=1) (z0:=[]) (n:=n2) (m:=n2) rfl rfl rfl un73 in9 rfl rfl rfl by9 (by first|omega|(simp only[List.length_set];omega)|(simp only[List.length_cons,List.length_nil];omega)) rfl rfl) (E rfl (B.sub rfl rfl (by unfold R64;omega)) (l3 (fun (i:Nat) (a:List (List UInt8)) (q:List UInt8)=>[(0,vS (bsO q)),(1,vS (bsO [32])),(2,vI 0),(3,vI ((n2:Int)-1)),(9,.aref 32 0),(10,vI i)]) (fun _ a _=>[(32,.arr 0 1 9 (List.map eN a))]) (fun i a q=>GsI s n2 i a q) (fun i _ _=>n2-i) 0 (List.replicate n2 []) s rfl ?_ (sb rfl rfl rfl) ?_)))
 · exact⟨List.length_replicate,Nat.le_refl _,by omega,by simp⟩
 intro i a q hI0
 have hal:=hI0.1
 have hil:=hI0.2.2.1
 refine Cp rfl rfl (fun h1=>?_) (fun h1=>?_)
 ·have hql:=hI0.2.1
  refine C rfl (w245 hp q 32 (by omega)) rfl rfl rfl (Cp rfl rfl (fun h2=>?_) (fun h2=>?_))
  ·have hal:=hI0.1
   have hil:=hI0.2.2.1
   exact E rfl (B.idxE (n:=i) rfl rfl rfl un73 sz9 rfl (by first|omega|(simp only[List.length_set];omega)|(simp only[List.length_cons,List.length_nil];omega))) (E rfl (B.setE (z0:=q) rfl rfl rfl rfl rfl sz9 (by first|omega|(simp only[List.length_set];omega)|(simp only[List.length_cons,List.length_nil];omega)) (fun _=>rfl)) (Fz 18 9 rfl rfl rfl (E rfl (B.add rfl rfl (by unfold R64;omega)) (E rfl (B.slT (j:=(i+1)) rfl rfl un73 sz9 (by omega) (by first|omega|(simp only[List.length_set];omega)|(simp only[List.length_cons,List.length_nil];omega))) (Rt rfl (leaf (val0:=vL eN (List.take (i+1) (List.set a i q))) (by kernel_rfl) (lsl (by first|exact gs_end hI0 (ix_neg (by assumption))|exact gs_end hI0 (gs_no hI0 (by assumption))))))))))
  ·refine tk 14 rfl ?_
   refine tn ⟨[(0,vS (bsO q)),(1,vS (bsO [32])),(2,vI 0),(3,vI ((n2:Int)-1)),(9,.aref 32 0),(10,vI i),(11,vI (Lib.indexByte q 32))],[(32,.arr 0 1 9 (List.map eN a))]⟩ rfl rfl rfl ?_
   obtain⟨m,hm,hmq,hm2,hm3⟩:=ix_nat (show 0≤Lib.indexByte q 32 by omega)
   rw[hm]
   refine kc (E rfl (B.add rfl rfl (by unfold R64;omega)) (E rfl (B.slHB (a:=q) (j:=(Int.toNat ((m:Int)+0))) rfl rfl un9 (Int.toNat_of_nonneg (by first|omega|(simp only[List.length_set];omega)|(simp only[List.length_cons,List.length_nil];omega))).symm (by first|omega|(simp only[List.length_set];omega)|(simp only[List.length_cons,List.length_nil];omega))) (E rfl (B.idxE (n:=i) rfl rfl rfl un73 sz9 rfl (by first|omega|(simp only[List.length_set];omega)|(simp only[List.length_cons,List.length_nil];omega))) (E rfl (B.setE (z0:=(List.take (Int.toNat ((m:Int)+0)) q)) rfl rfl rfl rfl rfl sz9 (by first|omega|(simp only[List.length_set];omega)|(simp only[List.length_cons,List.length_nil];omega)) (fun _=>rfl)) (E rfl (B.lenB1 (c:=32) rfl un9) (E rfl (B.add rfl rfl (by unfold R64;omega)) (E rfl (B.slLB (a:=q) (i:=(m+1)) rfl rfl un9 (by omega) (by first|omega|(simp only[List.length_set];omega)|(simp only[List.length_cons,List.length_nil];omega))) (E rfl (B.add rfl rfl (by unfold R64;omega)) (pk rfl (L3 (i+1) (List.set a i (List.take (Int.toNat ((m:Int)+0)) q)) (List.drop (m+1) q) ?_ ?_ (sb rfl rfl rfl)))))))))))
   · exact gs_step hI0 hm hmq hm2 hm3
   · omega
 ·have hal:=hI0.1
  have hil:=hI0.2.2.1
  exact E rfl (B.idxE (n:=i) rfl rfl rfl un73 sz9 rfl (by first|omega|(simp only[List.length_set];omega)|(simp only[List.length_cons,List.length_nil];omega))) (E rfl (B.setE (z0:=q) rfl rfl rfl rfl rfl sz9 (by first|omega|(simp only[List.length_set];omega)|(simp only[List.length_cons,List.length_nil];omega)) (fun _=>rfl)) (Fz 18 9 rfl rfl rfl (E rfl (B.add rfl rfl (by unfold R64;omega)) (E rfl (B.slT (j:=(i+1)) rfl rfl un73 sz9 (by omega) (by first|omega|(simp only[List.length_set];omega)|(simp only[List.length_cons,List.length_nil];omega))) (Rt rfl (leaf (val0:=vL eN (List.take (i+1) (List.set a i q))) (by kernel_rfl) (lsl (by first|exact gs_end hI0 (ix_neg (by assumption))|exact gs_end hI0 (gs_no hI0 (by assumption))))))))))
theorem w116 (hp:PowLaid) (s:List UInt8) (hl:s.length≤1000000):CallOk Tryz.prog 116 [vS (bsO s),vS (bsO [32])] (lookM []) (vL eN (splS s)) []:=by
 exact cG qf116 rfl (nB rfl) rfl (E rfl (B.nilS (enc:=eN) rfl) (C rfl (w170 hp s (by omega)) rfl rfl rfl (Rt rfl (leaf rfl rfl))))
end Go.Lens.Tm
end
section
namespace Go.Lens.Tm
open Go.Lens.Tb Go.Proofs
set_option linter.unusedSectionVars false
variable [Lz]
theorem cut3_len (p:List UInt8) (c:UInt8):(cut3 p c).2.1.length≤p.length:=by
 unfold cut3
 split
 ·simp
 ·simp
theorem out_len {N:Nat} {out:List Fld} {p:List UInt8} {c:UInt8} (h:∀ f∈out,f.2.length≤N) (hp:p.length≤N):∀ f∈out++[((cut3 p c).1,(cut3 p c).2.1)],f.2.length≤N:=by
 intro f hf
 rcases List.mem_append.1 hf with hf|hf
 ·exact h f hf
 ·simp only[List.mem_singleton] at hf
  subst hf
  exact Nat.le_trans (cut3_len p c) hp
end Go.Lens.Tm
end
section
namespace Go.Lens.Tm
open Go.Lens.Tb Go.Proofs
variable [Lz]
set_option linter.unusedSectionVars false
set_option maxRecDepth 100000
attribute [local irreducible] TK PK T RG EfR Body CG
set_option maxHeartbeats 4000000 in
theorem w37 (hp:PowLaid) (s:List UInt8) (hl:s.length≤100000):CallOk Tryz.prog 37 [vS (bsO s)] (lookM []) (.tup [vL eF (parF s).1,vI (parF s).2]) []:=by
 refine cG qf37 rfl (nB rfl) rfl ?_
 have hsl:(splS s).length≤s.length+1:=spl_len s []
 refine E rfl (B.nilS (enc:=eF) rfl) (E rfl (B.seqB (a:=s) (b:=[]) rfl rfl) (Cp rfl rfl (fun h1=>?_) (fun h1=>?_)))
 ·refine E rfl (B.nilS (enc:=eF) rfl) ?_
  exact Rt rfl (leaf (val0:=.tup [vL eF [],vI 0]) (by kernel_rfl) (tup2 (lsl (by first
          | rw[parF_nil h1]
          | rw[parF_none h1 (par_none hI0.2.2.1 (by omega) ((cutP_cut3 _).2 (bnot_t h3)))]
          | rw[parF_bad h1 hpe (by assumption)]
          | rw[parF_ok h1 hpe (by assumption)])) (li (by first
          | rw[parF_nil h1]
          | rw[parF_none h1 (par_none hI0.2.2.1 (by omega) ((cutP_cut3 _).2 (bnot_t h3)))]
          | rw[parF_bad h1 hpe (by assumption)]
          | rw[parF_ok h1 hpe (by assumption)]))))
 ·refine E rfl (B.adopt 5 2 174 rfl rfl) (C rfl (w116 hp s (by omega)) rfl rfl rfl (E rfl (B.lenL rfl un73) (l3 (fun (k:Nat) (v:Nat) (out:List Fld)=>[(4,.aref 5 v),(14,vL eN (splS s)),(15,vI ((List.length (splS s):Nat):Int)),(16,vI k)]) (fun _ v out=>[(5,.arr v 2 174 (List.map eF out))]) (fun k _ out=>k≤List.length (splS s)∧out.length=k∧parGo (splS s)=Option.map (fun r=>out++r) (parGo (List.drop k (splS s)))∧(∀ f:Fld,f∈out→f.2.length≤s.length)) (fun k _ _=>List.length (splS s)-k) 0 0 [] rfl ?_ (sb rfl rfl rfl) ?_)))
  · exact⟨Nat.zero_le _,rfl,by simp,fun f hf=>by cases hf⟩
  intro k v out hI0
  refine Cp rfl rfl (fun h2=>?_) (fun h2=>?_)
  ·refine E rfl (B.idx (z:=[]) (i:=k) rfl rfl un73 sz9 (fun _=>rfl) rfl (by first|omega|(have hc2:=hc;simp only[beq_iff_eq,decide_eq_true_eq,decide_eq_false_iff_not] at hc2;omega)|(simp only[List.length_append,List.length_cons,List.length_nil,List.length_take,List.length_drop];omega))) ?_
   have hpl:=spl_part s [] _ (getD_mem (l:=splS s) (k:=k) (z:=[]) (by omega))
   simp only[List.length_nil,Nat.zero_add] at hpl
   refine C rfl (w117 hp (List.getD (splS s) k []) 61 (by omega)) rfl rfl rfl (Cb rfl rfl (fun h3=>?_) (fun h3=>?_))
   ·refine E rfl (B.nilS (enc:=eF) rfl) ?_
    exact Rt rfl (leaf (val0:=.tup [vL eF [],vI 25]) (by kernel_rfl) (tup2 (lsl (by first
          | rw[parF_nil h1]
          | rw[parF_none h1 (par_none hI0.2.2.1 (by omega) ((cutP_cut3 _).2 (bnot_t h3)))]
          | rw[parF_bad h1 hpe (by assumption)]
          | rw[parF_ok h1 hpe (by assumption)])) (li (by first
          | rw[parF_nil h1]
          | rw[parF_none h1 (par_none hI0.2.2.1 (by omega) ((cutP_cut3 _).2 (bnot_t h3)))]
          | rw[parF_bad h1 hpe (by assumption)]
          | rw[parF_ok h1 hpe (by assumption)]))))
   ·refine E rfl (B.runZ (val:=.pv (.slice (List.map eF [((cut3 (List.getD (splS s) k []) 61).1,(cut3 (List.getD (splS s) k []) 61).2.1)]))) rfl (fun l=>Frz.arr l _ _ _ _ _) rfl) (E rfl (B.append rfl rfl rfl un59 in174 rfl (fun _=>rfl) by174 (by first|omega|(have hc2:=hc;simp only[beq_iff_eq,decide_eq_true_eq,decide_eq_false_iff_not] at hc2;omega)|(simp only[List.length_append,List.length_cons,List.length_nil,List.length_take,List.length_drop];omega))) (E rfl (B.add rfl rfl (by unfold R64;omega)) (pk rfl (L3 (k+1) (v+1) (out++[((cut3 (List.getD (splS s) k []) 61).1,(cut3 (List.getD (splS s) k []) 61).2.1)]) ?_ ?_ (sb rfl rfl rfl)))))
    · (refine⟨by omega,by simp only[List.length_append,List.length_cons,List.length_nil];omega,par_some hI0.2.2.1 (by omega) ((cutP_cut3 _).1 (bnot_f h3)),out_len hI0.2.2.2 hpl⟩)
    · omega
  ·have hpe:=par_end hI0.2.2.1 (by omega)
   have hcq:∀ f∈out,f.2.length≤1000000000000000:=fun f hf=>Nat.le_trans (hI0.2.2.2 f hf) (by omega)
   refine Fz 12 4 rfl rfl rfl (C rfl (w41 out (by omega) hcq) rfl rfl rfl (Cp rfl rfl (fun h4=>?_) (fun h4=>?_)))
   ·refine E rfl (B.nilS (enc:=eF) rfl) ?_
    exact Rt rfl (leaf (val0:=.tup [vL eF [],vI (chkFl out)]) (by kernel_rfl) (tup2 (lsl (by first
          | rw[parF_nil h1]
          | rw[parF_none h1 (par_none hI0.2.2.1 (by omega) ((cutP_cut3 _).2 (bnot_t h3)))]
          | rw[parF_bad h1 hpe (by assumption)]
          | rw[parF_ok h1 hpe (by assumption)])) (li (by first
          | rw[parF_nil h1]
          | rw[parF_none h1 (par_none hI0.2.2.1 (by omega) ((cutP_cut3 _).2 (bnot_t h3)))]
          | rw[parF_bad h1 hpe (by assumption)]
          | rw[parF_ok h1 hpe (by assumption)]))))
   ·exact Rt rfl (leaf (val0:=.tup [vL eF out,vI 0]) (by kernel_rfl) (tup2 (lsl (by first
          | rw[parF_nil h1]
          | rw[parF_none h1 (par_none hI0.2.2.1 (by omega) ((cutP_cut3 _).2 (bnot_t h3)))]
          | rw[parF_bad h1 hpe (by assumption)]
          | rw[parF_ok h1 hpe (by assumption)])) (li (by first
          | rw[parF_nil h1]
          | rw[parF_none h1 (par_none hI0.2.2.1 (by omega) ((cutP_cut3 _).2 (bnot_t h3)))]
          | rw[parF_bad h1 hpe (by assumption)]
          | rw[parF_ok h1 hpe (by assumption)]))))
end Go.Lens.Tm
end
section
namespace Go.Lens.Tb
set_option linter.unusedSectionVars false
def badB (start:Int) (W:List Int) (t:Tgt) (e:Int):Int:=firstF [chkNightF start W,chkTgtsF [t],withinF e 0 1440]
def begT (start:Int) (W:List Int) (t:Tgt) (e:Int):Int:=if badB start W t e≠0 then 0 else if begF W t e<0 then 0 else begF W t e
def begE (start:Int) (W:List Int) (t:Tgt) (e:Int):Int:=if badB start W t e≠0 then badB start W t e else if begF W t e<0 then 7 else 0
def badT (start:Int) (W:List Int) (l:List Tgt) (o:List Int):Int:=firstF [chkNightF start W,chkTgtsF l,chkOrdF l.length o]
def tlT (start:Int) (W:List Int) (l:List Tgt) (o:List Int):List Int:=if badT start W l o≠0 then [] else (tlF start W l o).getD []
def tlE (start:Int) (W:List Int) (l:List Tgt) (o:List Int):Int:=if badT start W l o≠0 then badT start W l o else (bif (tlF start W l o).isSome then 0 else 23)
def afterF (start:Int) (l:List Tgt) (o:List Int) (b:Int) (t:Tgt):Int:=if o.length=0 then start else b+(l.getD (o.getD (o.length-1) 0).toNat default).length+apartF (l.getD (o.getD (o.length-1) 0).toNat default).place t.place
end Go.Lens.Tb
end
section
namespace Go.Lens.Tb
open Go.Proofs
variable [Lz]
set_option linter.unusedSectionVars false
set_option maxRecDepth 100000
attribute [local irreducible] TK PK T RG EfR Body CG
end Go.Lens.Tb
end
section
namespace Go.Lens.Tb
set_option linter.unusedSectionVars false
def atB (start:Int) (l:List Tgt) (o:List Int) (i:Nat) (b:Int):Int:=if i=0 then start else b+(l.getD (o.getD (i-1) 0).toNat default).length
theorem bad1 {a b c:Int} (h:firstF [a,b]≠0):firstF [a,b,c]=firstF [a,b]:=by
  simp only[firstF] at h ⊢
  split
  · rename_i ha
    rw[if_pos ha] at h
    split
    · rename_i hb;rw[if_pos hb] at h;exact absurd rfl h
    · rfl
  · rfl
theorem bad2 {a b c:Int} (h:firstF [a,b]=0):firstF [a,b,c]=c:=by
  simp only[firstF] at h ⊢
  split
  · rename_i ha
    rw[if_pos ha] at h
    split
    · split
      · rename_i hc;exact hc.symm
      · rfl
    · rename_i hb;rw[if_neg hb] at h;exact absurd h hb
  · rename_i ha;rw[if_neg ha] at h;exact absurd h ha
theorem tl_ok {start:Int} {W:List Int} {l:List Tgt} {o:List Int} (h:firstF [chkNightF start W,chkTgtsF l]=0) (h2:chkOrdF l.length o=0):tlT start W l o=(tlF start W l o).getD []∧tlE start W l o=bif (tlF start W l o).isSome then 0 else 23:=by
  have e:badT start W l o=0:=(bad2 h).trans h2
  unfold tlT tlE
  rw[e,if_neg (by simp),if_neg (by simp)];exact⟨rfl,rfl⟩
end Go.Lens.Tb
end
section
namespace Go.Lens.Tb
open Go.Proofs
variable [Lz]
set_option linter.unusedSectionVars false
set_option maxRecDepth 100000
attribute [local irreducible] TK PK T RG EfR Body CG
end Go.Lens.Tb
end
section
namespace Go.Lens.Tb
set_option linter.unusedSectionVars false
section
variable {start:Int} {W:List Int} {l:List Tgt} {o:List Int} {t:Tgt} {e:Int}
theorem bt_of (h:firstF [chkNightF start W,chkTgtsF l,chkOrdF ((l.length:Nat):Int) o]=0):firstF [chkNightF start W,chkTgtsF l]=0∧chkOrdF l.length o=0:=by
  by_cases h1:firstF [chkNightF start W,chkTgtsF l]=0
  · exact⟨h1,(bad2 h1).symm.trans h⟩
  · exact absurd ((bad1 h1).symm.trans h) h1
theorem g1 (h0:firstF [chkNightF start W,chkTgtsF l,chkOrdF ((l.length:Nat):Int) o]=0)
    (h:(bif decide (tlE start W l o≠whenF (!(tlF start W l o).isSome) 23) then true else !(decide (tlT start W l o=(tlF start W l o).getD [])))=true):false=true:=by
  obtain⟨h1,h2⟩:=bt_of h0
  obtain⟨e1,e2⟩:=tl_ok h1 h2
  rw[e1,e2] at h
  unfold whenF at h
  cases hs:(tlF start W l o).isSome<;>rw[hs] at h<;>simp at h
theorem g2 (h0:¬firstF [chkNightF start W,chkTgtsF l,chkOrdF ((l.length:Nat):Int) o]=0)
    (h:(bif decide (tlE start W l o≠firstF [chkNightF start W,chkTgtsF l,chkOrdF ((l.length:Nat):Int) o]) then true else !(decide (tlT start W l o=[])))=true):false=true:=by
  have e1:tlT start W l o=[]:=by unfold tlT badT;rw[if_pos h0]
  have e2:tlE start W l o=firstF [chkNightF start W,chkTgtsF l,chkOrdF ((l.length:Nat):Int) o]:=by unfold tlE badT;rw[if_pos h0]
  rw[e1,e2] at h
  simp at h
theorem f1 (h:¬badB start W t e=0):(bif (bif decide (begE start W t e=badB start W t e) then decide (begT start W t e=0) else false) then true else false)=true:=by
  unfold begE begT;rw[if_pos h,if_pos h];simp
theorem f2 (h:badB start W t e=0) (h2:begF W t e<0):(bif (bif decide (begE start W t e=7) then decide (begT start W t e=0) else false) then true else false)=true:=by
  unfold begE begT;simp[h,h2]
theorem f3 (h:badB start W t e=0) (h2:¬begF W t e<0):(bif (bif decide (begE start W t e=badB start W t e) then decide (begT start W t e=begF W t e) else false) then true else false)=true:=by
  unfold begE begT;simp[h,h2]
end
end Go.Lens.Tb
end
section
namespace Go.Lens.Tb
open Go.Proofs
structure Ch where
 order:List Int
 bright:Int
 end_:Int
section
variable (S:Int) (W:List Int) (l:List Tgt)
def endF (o:List Int) (b:Int):Int:=if o.length=0 then S else b+(l.getD (o.getD (o.length-1) 0).toNat default).length
def betC (a c:Ch):Bool:=decide (c.bright<a.bright)||(decide (a.bright=c.bright)&&decide (a.end_<c.end_))
def updC (o:List Int) (b br:Int) (c:Ch):Ch:=bif betC ⟨o,br,endF S l o b⟩ c then ⟨o,br,endF S l o b⟩ else c
def nxtB (o:List Int) (b:Int) (i:Nat):Int:=begF W (l.getD i default) (afterF S l o b (l.getD i default))
def stepC (R:List Int→Int→Int→Ch→Ch) (o:List Int) (b br:Int) (i:Nat) (c:Ch):Ch:=
 bif o.any (fun j=>decide (j=(i:Int))) then c else if nxtB S W l o b i<0 then c else R (o++[(i:Int)]) (nxtB S W l o b i) (br+(l.getD i default).bright) c
def loopC (R:List Int→Int→Int→Ch→Ch) (o:List Int) (b br:Int) (c:Ch):Nat→Ch
 | 0=>c
 | k+1=>stepC S W l R o b br k (loopC R o b br c k)
def recC:Nat→List Int→Int→Int→Ch→Ch
 | 0,_,_,_,c=>c
 | n+1,o,b,br,c=>loopC S W l (recC n) o b br (updC S l o b br c) l.length
def lastD (r:List Int):Int:=r.getD (r.length-1) 0
def brightS:List Int→Int
 | []=>0
 | j::o=>(l.getD j.toNat default).bright+brightS o
def refC (n:Nat) (o:List Int) (c:Ch):Ch:=match tlF S W l o with
 | none=>c
 | some r=>recC S W l n o (lastD r) (brightS l o) c
def gdO (o:List Int):Prop:=o.Nodup∧∀ i∈o,0≤i∧i<(l.length:Int)
end
def lastP (l:List Tgt) (prev:Option Tgt) (o:List Int):Option Tgt:=if o.length=0 then prev else some (l.getD (o.getD (o.length-1) 0).toNat default)
def lastA (l:List Tgt) (a:Int) (o r:List Int):Int:=if o.length=0 then a else lastD r+(l.getD (o.getD (o.length-1) 0).toNat default).length
def badP (S:Int) (W:List Int) (l:List Tgt):Int:=firstF [chkNightF S W,chkTgtsF l,whenF (decide (8<(l.length:Int))) 22]
def planC (S:Int) (W:List Int) (l:List Tgt):Ch:=recC S W l (l.length+1) [] 0 0 ⟨[],0,S⟩
end Go.Lens.Tb
end
section
namespace Go.Lens.Tb
open Go.Proofs
set_option linter.unusedSectionVars false
theorem PK.nil [Lz] {P:Program} {n nb:Nat} {Q:Exit→St→Prop} {s:St} (h:Q .normal s):PK P n nb Q [] .normal s:=h
section
variable {S:Int} {W:List Int} {l:List Tgt} {R:List Int→Int→Int→Ch→Ch} {o:List Int} {b br:Int} {i:Nat} {c:Ch}
end
def endK (S:Int) (l:List Tgt) (o r:List Int) (k:Nat):Int:=if k=0 then S else r.getD (k-1) 0+(l.getD (o.getD (k-1) 0).toNat default).length
end Go.Lens.Tb
end
section
namespace Go.Lens.Tm
open Go.Lens.Tb Go.Proofs
set_option linter.unusedSectionVars false
variable [Lz]
def joinF:List (List UInt8)→List UInt8
 | []=>[]
 | w::r=>w++r.flatMap fun x=>32::x
def JoinOk:Prop:=∀ ws:List (List UInt8),ws.length≤1000→(∀ w∈ws,w.length≤1000)→CallOk Tryz.prog 169 [vL eN ws,vS (bsO [32])] (lookM []) (vS (bsO (joinF ws))) []
theorem join_snoc (l:List (List UInt8)) (w:List UInt8) (h:l≠[]):joinF (l++[w])=joinF l++32::w:=by
 cases l with
 | nil=>exact absurd rfl h
 | cons a l=>simp[joinF]
theorem join_prt (l:List Fld):∀ k,k≤l.length→joinF ((l.take k).map fldP)=prtK l k
 | 0,_=>rfl
 | k+1,hk=>by
  have ih:=join_prt l k (by omega)
  rw[take_fld l k (by omega),List.map_append,List.map_cons,List.map_nil]
  simp only[prtK]
  by_cases h0:0<k
  ·rw[join_snoc _ _ (by
     intro e
     have:=congrArg List.length e
     rw[List.length_map,List.length_take,List.length_nil] at this
     omega),ih,decide_eq_true h0]
   simp[fldP]
  ·have:k=0:=by omega
   subst this
   simp[joinF,fldP,prtK]
theorem join_all (l:List Fld):joinF (l.map fldP)=prtF l:=by
 have:=join_prt l l.length (Nat.le_refl _)
 rwa [List.take_of_length_le (Nat.le_refl _)] at this
theorem words_le {l:List Fld} (h:l.length≤26∧∀ f∈l,f.1.length≤60∧f.2.length≤100):∀ w∈l.map fldP,w.length≤1000:=by
 intro w hw
 obtain⟨f,hf,rfl⟩:=List.mem_map.1 hw
 have:=h.2 f hf
 simp only[fldP,List.length_append,List.length_cons,List.length_nil];omega
def prtX (l:List Fld):List UInt8:=if chkFl l=0 then prtF l else []
theorem parF_cases (s:List UInt8):(parF s).1=[]∨chkFl (parF s).1=0:=by
 unfold parF
 split
 ·exact .inl rfl
 ·split
  ·exact .inl rfl
  ·rename_i l _
   by_cases hq:chkFl l=0
   ·right
    show chkFl (if chkFl l=0 then (l,0) else ([],chkFl l)).1=0
    rw[if_pos hq];exact hq
   ·left
    show (if chkFl l=0 then (l,0) else ([],chkFl l)).1=[]
    rw[if_neg hq]
theorem parF_fit (s:List UInt8):(parF s).1.length≤26∧∀ f∈(parF s).1,f.1.length≤60∧f.2.length≤100:=by
 rcases parF_cases s with h|h
 ·rw[h];exact⟨by simp,fun f hf=>by cases hf⟩
 ·obtain⟨h1,h2⟩:=chk_parts h
  refine⟨by omega,fun f hf=>?_⟩
  obtain⟨j,hj,rfl⟩:=mem_getD ([],[]) hf
  have:=chkF_len (h2 j hj).1
  omega
end Go.Lens.Tm
end
section
namespace Go.Lens.Tm
open Go.Lens.Tb Go.Proofs
set_option linter.unusedSectionVars false
variable [Lz]
end Go.Lens.Tm
end
section
namespace Go.Lens.Tm
open Go.Lens.Tb Go.Proofs
set_option linter.unusedSectionVars false
variable [Lz]
end Go.Lens.Tm
end
section
namespace Go.Lens.Tm
open Go.Lens.Tb Go.Proofs
set_option linter.unusedSectionVars false
variable [Lz]
def reb (g:List UInt8→Option (List UInt8)):List (List UInt8)→List Fld
 | []=>[]
 | x::N=>if (g x).isSome then (x,(g x).getD [])::reb g N else reb g N
end Go.Lens.Tm
end
section
namespace Go.Lens.Tm
open Go.Lens.Tb Go.Proofs
set_option linter.unusedSectionVars false
variable [Lz]
def chF (B M T:List Fld) (x:List UInt8):Option (List UInt8):=if getF x M=getF x T then getF x M else if getF x M=getF x B then getF x T else getF x M
def okF (B M T:List Fld) (x:List UInt8):Prop:=getF x M=getF x T∨getF x M=getF x B∨getF x T=getF x B
instance (B M T:List Fld) (x:List UInt8):Decidable (okF B M T x):=inferInstanceAs (Decidable (_∨_∨_))
end Go.Lens.Tm
end
section
namespace Go.Lens.Tm
open Go.Lens.Tb Go.Proofs
set_option linter.unusedSectionVars false
variable [Lz]
def mgK (r:List Fld×List (List UInt8)):List Fld×List (List UInt8)×Int:=if 0<r.2.length then ([],r.2,29) else (r.1,[],0)
end Go.Lens.Tm
end
section
namespace Go.Lens.Tm
open Go.Lens.Tb Go.Proofs
variable [Lz]
set_option linter.unusedSectionVars false
set_option maxHeartbeats 4000000
set_option maxRecDepth 100000
attribute [local irreducible] TK PK T RG EfR Body CG
theorem w115 (hj:JoinOk) (l:List Fld) (hb:l.length≤26∧∀ f∈l,f.1.length≤60∧f.2.length≤100):CallOk Tryz.prog 115 [vL eF l] (lookM []) (vS (bsO (prtF l))) []:=by
 refine cG qf115 rfl (nB rfl) rfl (E rfl (B.adopt 4 1 9 rfl rfl) (E rfl (B.lenL rfl un59) (l3 (fun (k:Nat) (v:Nat) (out:List (List UInt8))=>[(3,.aref 4 v),(6,vL eF l),(7,vI l.length),(8,vI k)]) (fun _ v out=>[(4,.arr v 1 9 (List.map eN out))]) (fun k _ out=>k≤l.length∧out.length=k∧out=List.map fldP (List.take k l)) (fun k _ _=>l.length-k) 0 0 [] rfl ?_ (sb rfl rfl rfl) ?_)))
 · exact⟨Nat.zero_le _,rfl,rfl⟩
 intro k v out hI0
 refine Cp rfl rfl (fun h1=>?_) (fun h1=>?_)
 ·refine E rfl (B.idx (z:=([],[])) (i:=k) rfl rfl un59 sz174 (fun _=>rfl) rfl (by first|omega|(have hc2:=hc;simp only[beq_iff_eq,decide_eq_true_eq,decide_eq_false_iff_not] at hc2;omega)|(simp only[List.length_append,List.length_cons,List.length_nil,List.length_take,List.length_drop];omega))) ?_
  have hkb:=hb.2 _ (getD_mem (l:=l) (k:=k) (z:=([],[])) (by omega))
  refine E rfl (B.catB (a:=(List.getD l k ([],[])).1) (b:=[61]) rfl rfl (by first|omega|(simp only[List.length_append,List.length_cons,List.length_nil];omega))) (E rfl (B.catB (a:=((List.getD l k ([],[])).1++[61])) (b:=(List.getD l k ([],[])).2) rfl rfl (by first|omega|(simp only[List.length_append,List.length_cons,List.length_nil];omega))) (E rfl (B.runZ (val:=.pv (.slice (List.map eN [(((List.getD l k ([],[])).1++[61])++(List.getD l k ([],[])).2)]))) rfl (fun l=>Frz.arr l _ _ _ _ _) rfl) (E rfl (B.append rfl rfl rfl un73 in9 rfl (fun _=>rfl) by9 (by first|omega|(have hc2:=hc;simp only[beq_iff_eq,decide_eq_true_eq,decide_eq_false_iff_not] at hc2;omega)|(simp only[List.length_append,List.length_cons,List.length_nil,List.length_take,List.length_drop];omega))) (E rfl (B.add rfl rfl (by unfold R64;omega)) (pk rfl (L3 (k+1) (v+1) (out++[(((List.getD l k ([],[])).1++[61])++(List.getD l k ([],[])).2)]) ?_ ?_ (sb rfl rfl rfl)))))))
  · (refine⟨by omega,by simp only[List.length_append,List.length_cons,List.length_nil];omega,?_⟩;rw[take_fld l k (by omega),List.map_append,hI0.2.2];rfl)
  · omega
 ·have hou:out=l.map fldP:=by rw[hI0.2.2,List.take_of_length_le (by omega)]
  have hjw:∀ w∈out,w.length≤1000:=by rw[hou];exact words_le hb
  exact Fz 7 3 rfl rfl rfl (C rfl (hj out (by omega) hjw) rfl rfl rfl (Rt rfl (leaf (val0:=vS (bsO (joinF out))) (by kernel_rfl) (ls (by rw[hou,join_all l])))))
end Go.Lens.Tm
end
section
namespace Go.Lens
set_option linter.unusedSectionVars false
variable [Lz]
section
variable {P:Program} {Y:Tab} [TabOk P Y] {nb:Nat} {s:St} {dst:Option Tmp} {ty u:TypeId} {pos:String} {af:Array Edge} {gd:Option (Nat×Bool)} {t:TypeId} {x y:Operand}
end
end Go.Lens
namespace Go.Lens.Tm
open Go.Lens.Tb Go.Proofs
set_option linter.unusedSectionVars false
variable [Lz]
abbrev Fit (l:List Fld):Prop:=l.length≤26∧∀ f∈l,f.1.length≤60∧f.2.length≤100
def Ck (l:List Fld):Prop:=Fit l∧chkFl l=0∧l.length≤8
end Go.Lens.Tm
end
section
namespace Go.Lens.Tm
open Go.Lens.Tb Go.Proofs
set_option linter.unusedSectionVars false
abbrev Cmd:=List UInt8×List UInt8×Int
def eC (c:Cmd):List PV:=[.lit (.string (bsO (Prod.fst c))),.lit (.string (bsO (Prod.fst (Prod.snd c)))),.lit (.int .i64 (Prod.snd (Prod.snd c)))]
abbrev gC (c:Cmd):PV:=.agg [pS (bsO c.1),pS (bsO c.2.1),pI c.2.2]
abbrev bC (t:TypeId) (c:Cmd):MO:=.box t [vS (bsO c.1),vS (bsO c.2.1),vI c.2.2]
abbrev z3:Cmd:=([],[],0)
abbrev kAct:List UInt8:=[97,99,116]
abbrev kEnd:List UInt8:=[101,110,100]
abbrev kWait:List UInt8:=[119,97,105,116]
abbrev kRep:List UInt8:=[114,101,112,101,97,116]
def wordsF (o:List UInt8):Int:=if o=kAct then 2 else if o=kWait then 2 else if o=kRep then 2 else if o=kEnd then 1 else 0
def chkC (c:Cmd):Int:=
 if c.1=kAct then firstF [whenF (!(isNameF (bsO c.2.1))) 8,withinF c.2.2 0 0]
 else if c.1=kEnd then firstF [whenF (decide (c.2.1≠[])) 1,withinF c.2.2 0 0]
 else if c.1=kWait then firstF [whenF (decide (c.2.1≠[])) 1,withinF c.2.2 1 100000]
 else if c.1=kRep then firstF [whenF (decide (c.2.1≠[])) 1,withinF c.2.2 1 100]
 else 13
def badC:List Cmd→Int
 | []=>0
 | c::l=>if chkC c=0 then badC l else chkC c
def depC:Nat→List Cmd→Int
 | d,[]=>if 0<d then 2 else 0
 | d,c::l=>if c.1=kRep then (if d=4 then 22 else depC (d+1) l) else if c.1=kEnd then (if d=0 then 2 else depC (d-1) l) else depC d l
def lenGo:Int→List (Int×Int)→List Cmd→Int
 | s,_,[]=>s
 | s,st,c::l=>if c.1=kRep then lenGo 1 ((s,c.2.2)::st) l else if c.1=kEnd then (match st with
   | []=>s
   | p::st=>lenGo (p.1+p.2*s) st l) else lenGo (s+1) st l
theorem lenGo_cons (s:Int) (st:List (Int×Int)) (c:Cmd) (l:List Cmd):lenGo s st (c::l)=if c.1=kRep then lenGo 1 ((s,c.2.2)::st) l else if c.1=kEnd then (match st with
   | []=>s
   | p::st=>lenGo (p.1+p.2*s) st l) else lenGo (s+1) st l:=by cases st<;>rfl
def lenP (l:List Cmd):Int:=lenGo 0 [] l
def chkS (l:List Cmd):Int:=if 64<l.length then 5 else if badC l≠0 then badC l else if depC 0 l≠0 then depC 0 l else whenF (decide (10000<lenP l)) 22
def matGo:Int→Nat→List Cmd→Nat
 | _,i,[]=>i
 | d,i,c::l=>if c.1=kRep then matGo (d+1) (i+1) l else if c.1=kEnd then (if d-1=0 then i else matGo (d-1) (i+1) l) else matGo d (i+1) l
def smL:List (Int×Int)→Int→List Int
 | [],s=>[s]
 | p::st,s=>smL st p.1++[s]
def cnL:List (Int×Int)→List Int
 | []=>[]
 | p::st=>cnL st++[p.2]
theorem dropC {l:List Cmd} {k:Nat} (h:k<l.length):l.drop k=l.getD k z3::l.drop (k+1):=by
 rw[List.getD_eq_getElem?_getD,List.getElem?_eq_getElem h,Option.getD_some]
 exact List.drop_eq_getElem_cons h
theorem badC_ok {l:List Cmd} {k:Nat} (h:k<l.length) (h0:chkC (l.getD k z3)=0):badC (l.drop k)=badC (l.drop (k+1)):=by
 rw[dropC h,badC,if_pos h0]
theorem badC_no {l:List Cmd} {k:Nat} (h:k<l.length) (h0:chkC (l.getD k z3)≠0):badC (l.drop k)=chkC (l.getD k z3):=by
 rw[dropC h,badC,if_neg h0]
theorem badC_all:∀ {l:List Cmd},badC l=0→∀ c∈l,chkC c=0
 | [],_,c,hc=>by cases hc
 | a::l,h,c,hc=>by
  rw[badC] at h
  by_cases ha:chkC a=0
  ·rw[if_pos ha] at h
   rcases List.mem_cons.1 hc with rfl|hc
   ·exact ha
   ·exact badC_all h c hc
  ·rw[if_neg ha] at h;exact absurd h ha
theorem rep_end:kRep≠kEnd:=by decide
theorem dep_rep {l:List Cmd} {k d:Nat} (h:k<l.length) (h0:(l.getD k z3).1=kRep):depC d (l.drop k)=if d=4 then 22 else depC (d+1) (l.drop (k+1)):=by
 rw[dropC h,depC,if_pos h0]
theorem dep_end {l:List Cmd} {k d:Nat} (h:k<l.length) (h0:(l.getD k z3).1=kEnd):depC d (l.drop k)=if d=0 then 2 else depC (d-1) (l.drop (k+1)):=by
 rw[dropC h,depC,if_neg (by rw[h0];exact Ne.symm rep_end),if_pos h0]
theorem dep_one {l:List Cmd} {k d:Nat} (h:k<l.length) (h0:(l.getD k z3).1≠kRep) (h1:(l.getD k z3).1≠kEnd):depC d (l.drop k)=depC d (l.drop (k+1)):=by
 rw[dropC h,depC,if_neg h0,if_neg h1]
theorem len_rep {l:List Cmd} {k:Nat} {s:Int} {st:List (Int×Int)} (h:k<l.length) (h0:(l.getD k z3).1=kRep):lenGo s st (l.drop k)=lenGo 1 ((s,(l.getD k z3).2.2)::st) (l.drop (k+1)):=by
 rw[dropC h,lenGo_cons,if_pos h0]
theorem len_end {l:List Cmd} {k:Nat} {s:Int} {p:Int×Int} {st:List (Int×Int)} (h:k<l.length) (h0:(l.getD k z3).1=kEnd):lenGo s (p::st) (l.drop k)=lenGo (p.1+p.2*s) st (l.drop (k+1)):=by
 rw[dropC h,lenGo_cons,if_neg (by rw[h0];exact Ne.symm rep_end),if_pos h0]
theorem len_one {l:List Cmd} {k:Nat} {s:Int} {st:List (Int×Int)} (h:k<l.length) (h0:(l.getD k z3).1≠kRep) (h1:(l.getD k z3).1≠kEnd):lenGo s st (l.drop k)=lenGo (s+1) st (l.drop (k+1)):=by
 rw[dropC h,lenGo_cons,if_neg h0,if_neg h1]
theorem mat_rep {l:List Cmd} {k:Nat} {d:Int} (h:k<l.length) (h0:(l.getD k z3).1=kRep):matGo d k (l.drop k)=matGo (d+1) (k+1) (l.drop (k+1)):=by
 rw[dropC h,matGo,if_pos h0]
theorem mat_end {l:List Cmd} {k:Nat} {d:Int} (h:k<l.length) (h0:(l.getD k z3).1=kEnd):matGo d k (l.drop k)=if d-1=0 then k else matGo (d-1) (k+1) (l.drop (k+1)):=by
 rw[dropC h,matGo,if_neg (by rw[h0];exact Ne.symm rep_end),if_pos h0]
theorem mat_one {l:List Cmd} {k:Nat} {d:Int} (h:k<l.length) (h0:(l.getD k z3).1≠kRep) (h1:(l.getD k z3).1≠kEnd):matGo d k (l.drop k)=matGo d (k+1) (l.drop (k+1)):=by
 rw[dropC h,matGo,if_neg h0,if_neg h1]
theorem mat_nil {l:List Cmd} {k:Nat} {d:Int} (h:k=l.length):matGo d k (l.drop k)=k:=by
 rw[List.drop_of_length_le (by omega)];rfl
theorem smL_len:∀ (st:List (Int×Int)) (s:Int),(smL st s).length=st.length+1
 | [],_=>rfl
 | p::st,s=>by rw[smL,List.length_append,smL_len st];rfl
theorem cnL_len:∀ (st:List (Int×Int)),(cnL st).length=st.length
 | []=>rfl
 | p::st=>by rw[cnL,List.length_append,cnL_len st];rfl
theorem smL_get:∀ (st:List (Int×Int)) (s:Int),(smL st s).getD st.length 0=s
 | [],_=>rfl
 | p::st,s=>by
  rw[smL,List.getD_eq_getElem?_getD,List.getElem?_append_right (by rw[smL_len];simp),smL_len]
  simp
theorem smL_get2 (p:Int×Int) (st:List (Int×Int)) (s:Int):(smL (p::st) s).getD st.length 0=p.1:=by
 rw[smL,List.getD_eq_getElem?_getD,List.getElem?_append_left (by rw[smL_len];omega),←List.getD_eq_getElem?_getD]
 exact smL_get st p.1
theorem cnL_get (p:Int×Int) (st:List (Int×Int)):(cnL (p::st)).getD st.length 0=p.2:=by
 rw[cnL,List.getD_eq_getElem?_getD,List.getElem?_append_right (by rw[cnL_len];omega),cnL_len]
 simp
theorem smL_set:∀ (st:List (Int×Int)) (s v:Int),(smL st s).set st.length v=smL st v
 | [],_,_=>rfl
 | p::st,s,v=>by
  rw[smL,List.set_append_right _ _ (by rw[smL_len];simp),smL_len]
  simp[smL]
theorem smL_pop (p:Int×Int) (st:List (Int×Int)) (s v:Int):((smL (p::st) s).set st.length v).take (st.length+1)=smL st v:=by
 rw[smL,List.set_append_left _ _ (by rw[smL_len];omega),smL_set,List.take_append_of_le_length (by rw[smL_len];omega),List.take_of_length_le (by rw[smL_len];omega)]
theorem cnL_pop (p:Int×Int) (st:List (Int×Int)):(cnL (p::st)).take st.length=cnL st:=by
 rw[cnL,List.take_append_of_le_length (by rw[cnL_len];omega),List.take_of_length_le (by rw[cnL_len];omega)]
theorem with_rng {n a b:Int} (h:withinF n a b=0):a≤n∧n≤b:=by
 unfold withinF whenF outF at h
 by_cases h1:n<a
 ·simp[h1] at h
 ·by_cases h2:b<n
  ·simp[h2] at h
  ·omega
theorem first2 {a b:Int} (h:firstF [a,b]=0):a=0∧b=0:=by
 simp only[firstF] at h
 split at h
 ·rename_i ha
  split at h
  ·rename_i hb;exact⟨ha,hb⟩
  ·rename_i hb;exact absurd h hb
 ·rename_i ha;exact absurd h ha
theorem cnt_rep {c:Cmd} (h:chkC c=0) (h0:c.1=kRep):1≤c.2.2∧c.2.2≤100:=by
 unfold chkC at h
 rw[h0] at h
 rw[if_neg (by decide),if_neg (by decide),if_neg (by decide),if_pos rfl] at h
 exact with_rng (first2 h).2
theorem ops_of {c:Cmd} (h:chkC c=0):c.1=kAct∨c.1=kEnd∨c.1=kWait∨c.1=kRep:=by
 unfold chkC at h
 split at h
 ·exact .inl ‹_›
 ·split at h
  ·exact .inr (.inl ‹_›)
  ·split at h
   ·exact .inr (.inr (.inl ‹_›))
   ·split at h
    ·exact .inr (.inr (.inr ‹_›))
    ·cases h
theorem len_ge:∀ {l:List Cmd} {s:Int} {st:List (Int×Int)},depC st.length l=0→(∀ c∈l,chkC c=0)→0≤s→(∀ p∈st,0≤p.1∧1≤p.2)→s≤lenGo s st l∧∀ p∈st,p.1≤lenGo s st l
 | [],s,st,hd,_,_,_=>by
  rw[depC] at hd
  have:st.length=0:=by
   split at hd
   ·cases hd
   ·omega
  obtain rfl:=List.eq_nil_of_length_eq_zero this
  exact⟨Int.le_refl _,fun p hp=>by cases hp⟩
 | c::l,s,st,hd,hc,hs,hst=>by
  have hcl:∀ c∈l,chkC c=0:=fun x hx=>hc x (List.mem_cons_of_mem _ hx)
  rw[depC] at hd
  rw[lenGo_cons]
  by_cases h1:c.1=kRep
  ·rw[if_pos h1] at hd ⊢
   have hr:=cnt_rep (hc c (List.mem_cons_self ..)) h1
   split at hd
   ·cases hd
   ·have:=len_ge (s:=1) (st:=(s,c.2.2)::st) hd hcl (by omega) (by
     intro p hp
     rcases List.mem_cons.1 hp with rfl|hp
     ·exact⟨hs,hr.1⟩
     ·exact hst p hp)
    exact⟨this.2 _ (List.mem_cons_self ..),fun p hp=>this.2 p (List.mem_cons_of_mem _ hp)⟩
  ·rw[if_neg h1] at hd ⊢
   by_cases h2:c.1=kEnd
   ·rw[if_pos h2] at hd ⊢
    match st,hd,hst with
    | [],hd,_=>simp at hd
    | p::st,hd,hst=>
     simp only[List.length_cons,Nat.add_sub_cancel] at hd
     rw[if_neg (by omega)] at hd
     have hp:=hst p (List.mem_cons_self ..)
     have hm:s≤p.2*s:=by
      have:=Int.mul_le_mul_of_nonneg_right hp.2 hs
      omega
     have:=len_ge (s:=p.1+p.2*s) (st:=st) hd hcl (by omega) (fun q hq=>hst q (List.mem_cons_of_mem _ hq))
     refine⟨by show s≤lenGo (p.1+p.2*s) st l;omega,fun q hq=>?_⟩
     rcases List.mem_cons.1 hq with rfl|hq
     ·show q.1≤lenGo (q.1+q.2*s) st l;omega
     ·exact this.2 q hq
   ·rw[if_neg h2] at hd ⊢
    have:=len_ge (s:=s+1) (st:=st) hd hcl (by omega) hst
    exact⟨by omega,this.2⟩
end Go.Lens.Tm
end
section
namespace Go.Lens.Tm
open Go.Lens.Tb Go.Proofs
set_option linter.unusedSectionVars false
inductive Wf:Nat→List Cmd→Prop
 | nil (d:Nat):Wf d []
 | one {d:Nat} {c:Cmd} {l:List Cmd}:c.1≠kRep→c.1≠kEnd→Wf d l→Wf d (c::l)
 | rep {d:Nat} {c e:Cmd} {b l:List Cmd}:c.1=kRep→e.1=kEnd→Wf d b→Wf (d+1) l→Wf (d+1) (c::(b++e::l))
theorem wf_len {d:Nat} {l:List Cmd} (h:Wf d l):∀ (s:Int) (st:List (Int×Int)) (r:List Cmd),lenGo s st (l++r)=lenGo (s+lenP l) st r:=by
 induction h with
 | nil d=>intro s st r;rw[List.nil_append];simp[lenP,lenGo]
 | @one d c l h1 h2 h ih=>
  intro s st r
  have e:lenP (c::l)=1+lenP l:=by
   have:=ih 1 [] []
   rw[List.append_nil] at this
   rw[lenP,lenGo_cons,if_neg h1,if_neg h2,Int.zero_add,this];rfl
  rw[List.cons_append,lenGo_cons,if_neg h1,if_neg h2,ih,e,Int.add_assoc]
 | @rep d c e b l h1 h2 hb hl ihb ihl=>
  have key:∀ (s:Int) (st:List (Int×Int)) (r:List Cmd),lenGo s st ((c::(b++e::l))++r)=lenGo (s+(c.2.2*(1+lenP b)+lenP l)) st r:=by
   intro s st r
   rw[List.cons_append,lenGo_cons,if_pos h1,List.append_assoc,ihb,List.cons_append,lenGo_cons,if_neg (by rw[h2];exact Ne.symm rep_end),if_pos h2]
   show lenGo (s+c.2.2*(1+lenP b)) st (l++r)=_
   rw[ihl,Int.add_assoc]
  have e0:lenP (c::(b++e::l))=c.2.2*(1+lenP b)+lenP l:=by
   have:=key 0 [] []
   rw[List.append_nil,Int.zero_add] at this
   exact this
  intro s st r
  rw[key,e0]
theorem wf_one_len {d:Nat} {c:Cmd} {l:List Cmd} (h1:c.1≠kRep) (h2:c.1≠kEnd) (h:Wf d l):lenP (c::l)=1+lenP l:=by
 have:=wf_len h 1 [] []
 rw[List.append_nil] at this
 rw[lenP,lenGo_cons,if_neg h1,if_neg h2,Int.zero_add,this];rfl
theorem wf_rep_len {d:Nat} {c e:Cmd} {b l:List Cmd} (h1:c.1=kRep) (h2:e.1=kEnd) (hb:Wf d b) (hl:Wf (d+1) l):lenP (c::(b++e::l))=c.2.2*(1+lenP b)+lenP l:=by
 have h3:=wf_len hl (c.2.2*(1+lenP b)) [] []
 rw[List.append_nil] at h3
 rw[lenP,lenGo_cons,if_pos h1,wf_len hb,lenGo_cons,if_neg (by rw[h2];exact Ne.symm rep_end),if_pos h2]
 show lenGo (0+c.2.2*(1+lenP b)) [] l=_
 rw[Int.zero_add,h3];rfl
theorem wf_mat {d:Nat} {l:List Cmd} (h:Wf d l):∀ (q:Int) (i:Nat) (r:List Cmd),1≤q→matGo q i (l++r)=matGo q (i+l.length) r:=by
 induction h with
 | nil d=>intro q i r _;rfl
 | @one d c l h1 h2 h ih=>
  intro q i r hq
  rw[List.cons_append,matGo,if_neg h1,if_neg h2,ih _ _ _ hq,List.length_cons]
  congr 1;omega
 | @rep d c e b l h1 h2 hb hl ihb ihl=>
  intro q i r hq
  rw[List.cons_append,matGo,if_pos h1,List.append_assoc,ihb _ _ _ (by omega),List.cons_append,matGo,if_neg (by rw[h2];exact Ne.symm rep_end),if_pos h2,if_neg (by omega),show q+1-1=q by omega,ihl _ _ _ hq]
  congr 1
  simp only[List.length_cons,List.length_append];omega
def Op:Nat→List Cmd→Prop
 | 0,l=>Wf 4 l
 | k+1,l=>∃ b e r,l=b++e::r∧e.1=kEnd∧Wf (4-(k+1)) b∧Op k r
theorem op_of:∀ {l:List Cmd} {k:Nat},k≤4→depC k l=0→Op k l
 | [],k,_,h=>by
  rw[depC] at h
  have:k=0:=by
   split at h
   ·cases h
   ·omega
  subst this
  exact Wf.nil 4
 | c::l,k,hk,h=>by
  rw[depC] at h
  by_cases h1:c.1=kRep
  ·rw[if_pos h1] at h
   split at h
   ·cases h
   ·rename_i h4
    obtain⟨b,e,r,rfl,he,hb,hr⟩:=op_of (k:=k+1) (by omega) h
    cases k with
    | zero=>exact Wf.rep h1 he hb hr
    | succ j=>
     obtain⟨b2,e2,r2,rfl,he2,hb2,hr2⟩:=hr
     refine⟨c::(b++e::b2),e2,r2,by simp,he2,?_,hr2⟩
     have:4-(j+1)=(4-(j+1+1))+1:=by omega
     rw[this] at hb2 ⊢
     exact Wf.rep h1 he hb hb2
  ·rw[if_neg h1] at h
   by_cases h2:c.1=kEnd
   ·rw[if_pos h2] at h
    split at h
    ·cases h
    ·rename_i h0
     cases k with
     | zero=>exact absurd rfl h0
     | succ j=>exact⟨[],c,l,rfl,h2,Wf.nil _,op_of (k:=j) (by omega) h⟩
   ·rw[if_neg h2] at h
    have ih:=op_of hk h
    cases k with
    | zero=>exact Wf.one h1 h2 ih
    | succ j=>
     obtain⟨b,e,r,rfl,he,hb,hr⟩:=ih
     exact⟨c::b,e,r,rfl,he,Wf.one h1 h2 hb,hr⟩
theorem wf_of {l:List Cmd} (h:depC 0 l=0):Wf 4 l:=op_of (k:=0) (by omega) h
theorem one_le_101 (d:Nat):(1:Int)≤101 ^ d:=by
 have h:(1:Nat)≤101 ^ d:=Nat.one_le_pow _ _ (by decide)
 have e:((101:Int) ^ d)=(((101:Nat) ^ d:Nat):Int):=by simp
 rw[e];omega
theorem wf_nn {d:Nat} {l:List Cmd} (h:Wf d l) (hc:∀ c∈l,chkC c=0):0≤lenP l∧lenP l≤l.length*101 ^ d:=by
 induction h with
 | nil d=>simp[lenP,lenGo]
 | @one d c l h1 h2 h ih=>
  have:=ih fun x hx=>hc x (List.mem_cons_of_mem _ hx)
  rw[wf_one_len h1 h2 h]
  have hp:(1:Int)≤101 ^ d:=one_le_101 _
  have:((c::l).length:Int)*101 ^ d=(l.length:Int)*101 ^ d+101 ^ d:=by
   rw[List.length_cons,Int.natCast_add,Int.add_mul];simp
  omega
 | @rep d c e b l h1 h2 hb hl ihb ihl=>
  have kb:=ihb fun x hx=>hc x (by simp[hx])
  have kl:=ihl fun x hx=>hc x (by simp[hx])
  have hr:=cnt_rep (hc c (List.mem_cons_self ..)) h1
  rw[wf_rep_len h1 h2 hb hl]
  have hp:(1:Int)≤101 ^ d:=one_le_101 _
  have n0:0≤c.2.2*(1+lenP b):=Int.mul_nonneg (by omega) (by omega)
  have n1:c.2.2*(1+lenP b)≤101*((1+b.length)*101 ^ d):=by
   have a1:c.2.2*(1+lenP b)≤101*(1+lenP b):=Int.mul_le_mul_of_nonneg_right (by omega) (by omega)
   have a2:101*(1+lenP b)≤101*((1+b.length)*101 ^ d):=Int.mul_le_mul_of_nonneg_left (by rw[Int.add_mul];omega) (by decide)
   omega
  have e1:101*((1+(b.length:Int))*101 ^ d)=(1+b.length)*101 ^ (d+1):=by
   rw[Int.pow_succ];rw[Int.mul_comm 101,Int.mul_assoc]
  have e2:((c::(b++e::l)).length:Int)*101 ^ (d+1)=(1+b.length)*101 ^ (d+1)+l.length*101 ^ (d+1)+101 ^ (d+1):=by
   have:((c::(b++e::l)).length:Int)=(1+b.length)+l.length+1:=by simp only[List.length_cons,List.length_append];omega
   rw[this,Int.add_mul,Int.add_mul];simp
  have hp2:(1:Int)≤101 ^ (d+1):=one_le_101 _
  omega
theorem wf_small {d:Nat} {l:List Cmd} (h:Wf d l) (hd:d≤4) (hc:∀ c∈l,chkC c=0) (hl:l.length≤64):0≤lenP l∧lenP l≤7000000000:=by
 obtain⟨h1,h2⟩:=wf_nn h hc
 refine⟨h1,?_⟩
 have hp:(101:Int) ^ d≤101 ^ 4:=by
  have:d=0∨d=1∨d=2∨d=3∨d=4:=by omega
  rcases this with rfl|rfl|rfl|rfl|rfl<;>decide
 have h3:(l.length:Int)*101 ^ d≤64*101 ^ 4:=by
  have a1:(l.length:Int)*101 ^ d≤l.length*101 ^ 4:=Int.mul_le_mul_of_nonneg_left hp (by omega)
  have a2:(l.length:Int)*101 ^ 4≤64*101 ^ 4:=Int.mul_le_mul_of_nonneg_right (by omega) (by decide)
  omega
 have:(64:Int)*101 ^ 4=6659865664:=by decide
 omega
theorem wf_at {d:Nat} {l:List Cmd} {i:Nat} (hw:Wf d (l.drop i)) (hi:i<l.length) (h0:(l.getD i z3).1=kRep) :
  ∃ (d' n:Nat),d=d'+1∧n=matGo 0 i (l.drop i)∧i+1≤n∧n<l.length∧Wf d' ((l.take n).drop (i+1))∧Wf d (l.drop (n+1))∧lenP (l.drop i)=(l.getD i z3).2.2*(1+lenP ((l.take n).drop (i+1)))+lenP (l.drop (n+1)):=by
 have hd:=dropC hi
 generalize hq:l.drop i=q at hw hd
 cases hw with
 | nil d=>cases hd
 | one h1 h2 h=>cases hd;exact absurd h0 h1
 | @rep d' c e b r h1 h2 hb hr=>
  injection hd with k1 k2
  have hm:matGo 0 i (c::(b++e::r))=i+1+b.length:=by
   rw[matGo,if_pos h1,wf_mat hb _ _ _ (by omega),matGo,if_neg (by rw[h2];exact Ne.symm rep_end),if_pos h2,if_pos (by omega)]
  have hlen:l.length=i+1+b.length+1+r.length:=by
   have:=congrArg List.length hq
   simp only[List.length_drop,List.length_cons,List.length_append] at this
   omega
  have htb:(l.take (i+1+b.length)).drop (i+1)=b:=by
   rw[List.drop_take,←k2,show i+1+b.length-(i+1)=b.length by omega,List.take_left]
  have hdr:l.drop (i+1+b.length+1)=r:=by
   rw[show i+1+b.length+1=(i+1)+(b.length+1) by omega,←List.drop_drop,←k2,←List.drop_drop,List.drop_left];rfl
  refine⟨d',i+1+b.length,rfl,hm.symm,by omega,by omega,by rw[htb];exact hb,by rw[hdr];exact hr,?_⟩
  rw[htb,hdr,←k1]
  exact wf_rep_len h1 h2 hb hr
theorem wf_next {d:Nat} {l:List Cmd} {i:Nat} (hw:Wf d (l.drop i)) (hi:i<l.length) (h0:(l.getD i z3).1≠kRep):(l.getD i z3).1≠kEnd∧Wf d (l.drop (i+1))∧lenP (l.drop i)=1+lenP (l.drop (i+1)):=by
 have hd:=dropC hi
 generalize hq:l.drop i=q at hw hd
 cases hw with
 | nil d=>cases hd
 | one h1 h2 h=>
  injection hd with k1 k2
  rw[←k1,←k2]
  exact⟨h2,h,wf_one_len h1 h2 h⟩
 | rep h1 h2 hb hr=>injection hd with k1 k2;rw[k1] at h1;exact absurd h1 h0
end Go.Lens.Tm
end
section
namespace Go.Lens
set_option linter.unusedSectionVars false
variable [Lz]
section
variable {P:Program} {Y:Tab} [TabOk P Y] {nb:Nat} {s:St} {dst:Option Tmp} {ty u:TypeId} {pos:String} {af:Array Edge} {gd:Option (Nat×Bool)} {t:TypeId} {x y z:Operand}
theorem B.loadE {α:Type} {enc:α→List PV} {l:List α} {z0:α} {p:PV} {h v sz n:Nat} {T:TypeId} (hx:ev1 s x=.eref h v n 0) (hm:lookM s.ms h=some (.arr v sz T (l.map enc))) (ha:aggT Y t=some false) (hs:szT Y t=some 1)
  (hlt:n<l.length) (hz:enc (l.getD n z0)=[p]):Body P Y nb s ⟨dst,.load t x,ty,pos,af,gd⟩ (.pv p) [] [h]:=by
 refine .inr (SBody.of fun σ G a w hv hl I=>?_)
 have hX:=hv x (by simp[Op.operands])
 rw[hx] at hX
 have hlk:lookM σ.ms h=some (.arr v sz T (l.map enc)):=by rw[hl h (.inl (by simp))];exact hm
 have hq:loadQ Y t (lookM σ.ms) (.eref h v n 0)=some (true,.pv p):=by
  have hg:(l.map enc).getD n []=[p]:=by
   rw[←hz,List.getD_eq_getElem?_getD,List.getElem?_map,List.getD_eq_getElem?_getD,List.getElem?_eq_getElem hlt];rfl
  unfold loadQ
  simp only[ha,hs,hlk,if_true,hg,Bool.false_eq_true,if_false,List.length_map]
  simp[hlt]
 obtain⟨r,h1,h2⟩:=loadQ_sound (P:=P) I.ctxS.sees hq hX
 refine⟨r,w,G,.inl ?_,stepped_same I.ctxS h2 (fun k hk=>by simp[DV.refs] at hk)⟩
 simp only[execOp,Sem.run_bind,h1,Result.andThen_ok,Sem.run_pure]
theorem B.slA {α:Type} {enc:α→List PV} {l:List α} {h v sz n:Nat} {k:IntKind} {m:Int} {e T:TypeId} (hx:ev1 s x=.aref h v) (hm:lookM s.ms h=some (.arr v sz T (l.map enc))) (hy:ev1 s y=lit (.int k m)) (und:Y.underlying t=some (.slice e)) (hs:szT Y e=some sz)
  (hn:m=(n:Int)) (hle:n≤l.length):Body P Y nb s ⟨dst,.slice t x none (some y) none,ty,pos,af,gd⟩ (.atrunc h v n) [] [h]:=by
 refine .inr (SBody.of fun σ G a w hv hl I=>?_)
 have hX:=hv x (by simp[Op.operands])
 have hY:=hv y (by simp[Op.operands])
 rw[hx] at hX;rw[hy] at hY
 have hlk:lookM σ.ms h=some (.arr v sz T (l.map enc)):=by rw[hl h (.inl (by simp))];exact hm
 have hq:sliceW Y t (lookM σ.ms) (.aref h v) none (some (lit (.int k m))) none=some (true,.atrunc h v n):=by
  show sliceQ Y t (lookM σ.ms) (.aref h v) none (some (lit (.int k m))) none=_
  unfold sliceQ lit
  subst hn
  have:decide ((0:Int)≤(n:Int)∧(n:Int)≤((l.map enc).length:Int))=true:=decide_eq_true ⟨by omega,by rw[List.length_map];omega⟩
  simp only[und,bound,hs,hlk,if_true,this,Int.toNat_natCast]
 obtain⟨r,h1,h2⟩:=sliceW_sound (P:=P) I.ctxS.sees hq hX (vlo:=none) (vhi:=some (a.eval y)) (vmx:=none) trivial hY trivial
 refine⟨r,w,G,.inl ?_,stepped_same I.ctxS h2 (fun k hk=>?_)⟩
 ·simp only[execOp,Option.map_none,Option.map_some,Sem.run_bind,h1,Result.andThen_ok,Sem.run_pure]
 ·simp only[DV.refs,List.mem_singleton] at hk;subst hk;exact⟨_,hlk⟩
end
theorem wk_trunc {nb:Nat} {s:St} {t h v k sz:Nat} {T0:TypeId} {es:List (List PV)} (ht:getT s.tm t=.atrunc h v k) (hm:lookM s.ms h=some (.arr v sz T0 es)):Wk nb s ⟨(t,.aref h (v+1))::s.tm,(h,.arr (v+1) sz T0 (es.take k))::s.ms⟩:=by
 intro G a w I
 have hv0:RelDV G (G.rd w) (.atrunc h v k) (a.tmps.getD t undef):=by
  have:=I.ts t
  have e:s.vw.get t=.atrunc h v k:=ht
  rw[e] at this;exact this
 have ht2:truncU (lookM s.ms) (.atrunc h v k)=some (.aref h (v+1),h,.arr (v+1) sz T0 (es.take k)):=by simp only[truncU,hm,if_true]
 obtain⟨G1,S1⟩:=trunc_stepped I.mem hv0 ht2
 obtain⟨I1,Sn1⟩:=I.eff (K:=nb) S1 none (by simp)
 have I2:Inv G1 (St.vw ⟨s.tm,(h,.arr (v+1) sz T0 (es.take k))::s.ms⟩) a w:=I1
 refine⟨G1,?_,Sn1⟩
 have hts:t<a.tmps.size:=by
  rcases Nat.lt_or_ge t a.tmps.size with h|h
  ·exact h
  ·exact absurd (ht.symm.trans (I.size t h)) (by simp)
 refine⟨fun u=>?_,fun u hu=>?_,I2.ms,I2.fresh,I2.own,fun u k hk=>?_,I2.refsM,I2.r0,I2.r0m,I2.baseLe,I2.laid⟩
 ·show RelDV _ _ (getT ((t,.aref h (v+1))::s.tm) u) _
  rw[getT_cons]
  split
  ·rename_i e;subst e;exact S1.hval
  ·exact I2.ts u
 ·show getT ((t,.aref h (v+1))::s.tm) u=.dead
  rw[getT_cons,if_neg (by omega)]
  exact I2.size u hu
 ·have hk':k∈(getT ((t,.aref h (v+1))::s.tm) u).refs:=hk
  rw[getT_cons] at hk'
  split at hk'
  ·simp only[DV.refs,List.mem_singleton] at hk'
   subst hk'
   exact⟨_,by show lookM ((k,_)::s.ms) k=_;rw[lookM_cons,if_pos rfl]⟩
  ·exact I2.refsT u k hk'
section
variable {P:Program} {Y:Tab} {n nb:Nat} {Q:Exit→St→Prop} {K:List Fr} {c:Code} {s:St}
theorem TK.trunc {t h v k sz:Nat} {T0:TypeId} {α:Type} {enc:α→List PV} {l:List α} (ht:getT s.tm t=.atrunc h v k) (hm:lookM s.ms h=some (.arr v sz T0 (l.map enc))) (q:TK P n nb Q c K ⟨(t,.aref h (v+1))::s.tm,(h,.arr (v+1) sz T0 ((l.take k).map enc))::s.ms⟩):TK P n nb Q c K s:=by
 refine T.weak (wk_trunc ht hm) ?_
 rw[←List.map_take]
 exact q
end
section
variable {P:Program} {Y:Tab} [TabOk P Y] {nb:Nat} {s:St} {dst:Option Tmp} {ty u:TypeId} {pos:String} {af:Array Edge} {gd:Option (Nat×Bool)} {t:TypeId} {x y:Operand}
end
section
variable {P:Program} {n nb:Nat} {Q:Exit→St→Prop} {c:Code} {s:St}
theorem pk_goto (hq:∀ l s,¬Q (.goto l) s):∀ {K:List Fr} {l:Nat} {s:St},¬PK P n nb Q K (.goto l) s
 | [],l,s,h=>hq l s h
 | .seq y::K,l,s,h=>pk_goto hq (K:=K) h
 | .blk id::K,l,s,h=>pk_goto hq (K:=K) h
 | .lp C::K,l,s,h=>pk_goto hq (K:=K) h
theorem TK.scope {K:List Fr} (hq:∀ l s,¬Q (.goto l) s) (h:TK P n nb Q c K s):TK P n nb Q (.scope c) K s:=by
 intro G a w R I hn hK
 refine wp_scope_straight (h G a w _ I hn ?_)
 intro e s' G1 a1 w1 q I1 Sn1 hn1 hd1
 have:=hK e s' G1 a1 w1 q I1 Sn1 hn1 hd1
 cases e with
 | goto l=>exact absurd q (pk_goto hq)
 | _=>exact this
theorem TK.label {K:List Fr} {l:Nat} (h:PK P n nb Q K .normal s):TK P n nb Q (.label l) K s:=by
 intro G a w R I hn hK
 exact wp_label (hK _ s G a w h I (Since.refl _ _ _ _) hn rfl)
end
theorem wk_boxpv {nb:Nat} {s:St} {h:Nat} {T0:TypeId} {ds:List DV} {cs:List PV} (hm:lookM s.ms h=some (.box T0 ds)) (hp:pvOfL (lookM s.ms) ds=some cs):Wk nb s ⟨s.tm,(h,.box T0 (cs.map .pv))::s.ms⟩:=by
 intro G a w I
 have M:=I.mem
 have hb:=M.ms _ _ hm
 have S1:Stepped G w (lookM s.ms) .dead [(h,.box T0 (cs.map .pv))] G w undef:=by
  refine⟨Later.refl _ _,by simp only[RelDV],?_,fun _ _ _=>.inl rfl,fun _ _=>⟨rfl,fun _ hb=>⟨hb,rfl⟩⟩,M.fresh,fun _ _ hb=>.inr hb,fun h hh=>by simp[DV.refs] at hh,?_,fun _ _ hb=>.inl hb,fun _ _ _ _ h=>.inl h,fun _ _ _ h=>.inl h⟩
  ·intro k o hk
   simp only[List.mem_singleton,Prod.mk.injEq] at hk
   obtain⟨rfl,rfl⟩:=hk
   simp only[RelMO] at hb ⊢
   obtain⟨e1,b,c,e2,e3,e4,e5,e6⟩:=hb
   exact⟨e1,b,c,e2,e3,e4,e5,relDVs_pv (pvOfL_sound M.ms hp e6)⟩
  ·intro k o hk h' hh
   simp only[List.mem_singleton,Prod.mk.injEq] at hk
   obtain⟨rfl,rfl⟩:=hk
   simp only[MO.refs,refsL_pv] at hh
   cases hh
 obtain⟨I1,Sn1⟩:=I.eff (K:=nb) S1 none (by simp)
 exact⟨G,I1,Sn1⟩
theorem wk_frz0 {nb:Nat} {s:St} {h:Nat} {o:MO} (hf:frzStep (lookM s.ms) h=some o):Wk nb s ⟨s.tm,(h,o)::s.ms⟩:=by
 intro G a w I
 obtain⟨G1,S1⟩:=frz_stepped I.mem hf
 obtain⟨I1,Sn1⟩:=I.eff (K:=nb) S1 none (by simp)
 exact⟨G1,I1,Sn1⟩
end Go.Lens
end
section
namespace Go.Lens.Tm
open Go.Lens.Tb Go.Proofs
set_option linter.unusedSectionVars false
theorem eqf {b:Bool} (h:(b==false)=true):b=false:=by cases b<;>simp_all
theorem eqt {b:Bool} (h:(b==true)=true):b=true:=by cases b<;>simp_all
theorem lenP_nil:lenP []=0:=rfl
theorem words_zero {o:List UInt8} (h:wordsF o=0):o≠kAct∧o≠kWait∧o≠kRep∧o≠kEnd:=by
 unfold wordsF at h
 refine⟨fun e=>?_,fun e=>?_,fun e=>?_,fun e=>?_⟩<;>(rw[e] at h;exact absurd h (by decide))
theorem words_some {o:List UInt8} (h:wordsF o≠0):o=kAct∨o=kWait∨o=kRep∨o=kEnd:=by
 unfold wordsF at h
 by_cases h1:o=kAct
 ·exact .inl h1
 ·by_cases h2:o=kWait
  ·exact .inr (.inl h2)
  ·by_cases h3:o=kRep
   ·exact .inr (.inr (.inl h3))
   ·by_cases h4:o=kEnd
    ·exact .inr (.inr (.inr h4))
    ·rw[if_neg h1,if_neg h2,if_neg h3,if_neg h4] at h;exact absurd rfl h
theorem chk_kind {c:Cmd} (h:wordsF c.1=0):chkC c=13:=by
 obtain⟨h1,h2,h3,h4⟩:=words_zero h
 unfold chkC
 rw[if_neg h1,if_neg h4,if_neg h2,if_neg h3]
theorem first_when {b:Bool} {e x:Int} (he:e≠0):firstF [whenF b e,x]=bif b then e else firstF [x]:=by
 cases b
 ·rfl
 ·simp[whenF,firstF,he]
theorem first_one (x:Int):firstF [x]=x:=by
 by_cases h:x=0<;>simp[firstF,h]
theorem chk_name {c:Cmd} (h:(bif (decide (c.1=[97,99,116])) then (!(isNameF (bsO c.2.1))) else false)=true):chkC c=8:=by
 rw[bif_and,Bool.and_eq_true] at h
 unfold chkC
 rw[if_pos (of_decide_eq_true h.1),first_when (by decide),h.2];rfl
theorem chk_form {c:Cmd} (h0:wordsF c.1≠0) (h:(bif (decide (c.1≠[97,99,116])) then (decide (c.2.1≠[])) else false)=true):chkC c=1:=by
 rw[bif_and,Bool.and_eq_true] at h
 have h1:c.1≠kAct:=of_decide_eq_true h.1
 unfold chkC
 rw[if_neg h1]
 rcases words_some h0 with e|e|e|e
 ·exact absurd e h1
 ·rw[e,if_neg (by decide),if_pos rfl,first_when (by decide),h.2];rfl
 ·rw[e,if_neg (by decide),if_neg (by decide),if_pos rfl,first_when (by decide),h.2];rfl
 ·rw[e,if_pos rfl,first_when (by decide),h.2];rfl
theorem chk_rest {c:Cmd} (h0:wordsF c.1≠0) (h1:(bif (decide (c.1=[97,99,116])) then (!(isNameF (bsO c.2.1))) else false)=false) (h2:(bif (decide (c.1≠[97,99,116])) then (decide (c.2.1≠[])) else false)=false) :
  chkC c=if c.1=kWait then withinF c.2.2 1 100000 else if c.1=kRep then withinF c.2.2 1 100 else withinF c.2.2 0 0:=by
 unfold chkC
 rcases words_some h0 with e|e|e|e
 ·rw[e] at h1 ⊢
  rw[decide_eq_true rfl,cond_true] at h1
  rw[if_pos rfl,if_neg (by decide),if_neg (by decide),first_when (by decide),h1]
  exact first_one _
 ·rw[e] at h2 ⊢
  rw[decide_eq_true (by decide),cond_true] at h2
  rw[if_neg (by decide),if_neg (by decide),if_pos rfl,first_when (by decide),h2]
  exact first_one _
 ·rw[e] at h2 ⊢
  rw[decide_eq_true (by decide),cond_true] at h2
  rw[if_neg (by decide),if_neg (by decide),if_neg (by decide),if_pos rfl,if_neg (by decide),if_pos rfl,first_when (by decide),h2]
  exact first_one _
 ·rw[e] at h2 ⊢
  rw[decide_eq_true (by decide),cond_true] at h2
  rw[if_neg (by decide),if_pos rfl,if_neg (by decide),if_neg (by decide),first_when (by decide),h2]
  exact first_one _
theorem with_out {n a b:Int} (h:outF n a b=true):withinF n a b=3:=by unfold withinF whenF;rw[h];rfl
theorem with_in {n a b:Int} (h:outF n a b=false):withinF n a b=0:=by unfold withinF whenF;rw[h];rfl
theorem chkS_many {l:List Cmd} (h:64<((List.length l:Nat):Int)):chkS l=5:=by unfold chkS;exact if_pos (by omega)
theorem chkS_bad {l:List Cmd} {e:Int} (h:¬64<((List.length l:Nat):Int)) (hb:badC l=e) (he:e≠0):chkS l=e:=by
 unfold chkS
 rw[if_neg (by omega),if_pos (by rw[hb];exact he),hb]
theorem chkS_dep {l:List Cmd} {e:Int} (h:¬64<((List.length l:Nat):Int)) (hb:badC l=0) (hd:depC 0 l=e) (he:e≠0):chkS l=e:=by
 unfold chkS
 rw[if_neg (by omega),if_neg (by rw[hb];simp),if_pos (by rw[hd];exact he),hd]
theorem chkS_len {l:List Cmd} (h:¬64<((List.length l:Nat):Int)) (hb:badC l=0) (hd:depC 0 l=0):chkS l=whenF (decide (10000<lenP l)) 22:=by
 unfold chkS
 rw[if_neg (by omega),if_neg (by rw[hb];simp),if_neg (by rw[hd];simp)]
theorem chkS_ok {l:List Cmd} (h:chkS l=0):l.length≤64∧(∀ c∈l,chkC c=0)∧depC 0 l=0∧lenP l≤10000:=by
 unfold chkS at h
 split at h
 ·cases h
 ·split at h
  ·rename_i h2;exact absurd h h2
  ·split at h
   ·rename_i h3;exact absurd h h3
   ·rename_i h1 h2 h3
    refine⟨by omega,badC_all (Decidable.not_not.1 h2),Decidable.not_not.1 h3,?_⟩
    unfold whenF at h
    cases hq:decide (10000<lenP l) with
    | true=>rw[hq] at h;cases h
    | false=>have:=of_decide_eq_false hq;omega
theorem bad_end {l:List Cmd} {k:Nat} (h:¬k<l.length):badC (l.drop k)=0:=by rw[List.drop_of_length_le (by omega)];rfl
theorem dep_nil {l:List Cmd} {k d:Nat} (h:¬k<l.length):depC d (l.drop k)=if 0<d then 2 else 0:=by rw[List.drop_of_length_le (by omega)];rfl
def shortS (l:List Cmd) (n:Int):Bool:=
 bif (decide (n<(l.length:Int))&&decide ((l.length:Int)≤64))||decide (66<(l.length:Int)) then false
 else (l.all fun c=>decide (c.1.length≤40)&&decide (c.2.1.length≤40))&&(bif decide (chkS l≠0) then true else decide (lenP l≤400))
section
variable {l:List Cmd} {n:Int} {k:Nat}
end
def LnI (l:List Cmd) (k:Nat) (s:Int) (st:List (Int×Int)):Prop:=(lenGo s st (l.drop k)=lenP l∧depC st.length (l.drop k)=0∧st.length≤k)∧0≤s∧∀ p∈st,0≤p.1∧1≤p.2
theorem ln_init {l:List Cmd} (h:depC 0 l=0):LnI l 0 0 []:=⟨⟨rfl,h,Nat.le_refl _⟩,Int.le_refl _,fun p hp=>by cases hp⟩
section
variable {l:List Cmd} {k:Nat} {s:Int} {st:List (Int×Int)}
theorem ln_le (h:LnI l k s st) (hc:∀ c∈l,chkC c=0):s≤lenP l∧∀ p∈st,p.1≤lenP l:=by
 obtain⟨⟨h1,h2,_⟩,h3,h4⟩:=h
 rw[←h1]
 exact len_ge h2 (fun c hx=>hc c (List.mem_of_mem_drop hx)) h3 h4
theorem ln_rep (h:LnI l k s st) (hc:∀ c∈l,chkC c=0) (hk:k<l.length) (h0:(l.getD k z3).1=kRep):LnI l (k+1) 1 ((s,(l.getD k z3).2.2)::st):=by
 obtain⟨⟨h1,h2,h5⟩,h3,h4⟩:=h
 rw[dep_rep hk h0] at h2
 have hr:=cnt_rep (hc _ (getD_mem (z:=z3) hk)) h0
 split at h2
 ·cases h2
 ·refine⟨⟨(len_rep hk h0).symm.trans h1,h2,by simp only[List.length_cons];omega⟩,by decide,fun p hp=>?_⟩
  rcases List.mem_cons.1 hp with rfl|hp
  ·exact⟨h3,hr.1⟩
  ·exact h4 p hp
theorem ln_some (h:LnI l k s st) (hk:k<l.length) (h0:(l.getD k z3).1=kEnd):∃ p st2,st=p::st2:=by
 obtain⟨⟨_,h2,_⟩,_,_⟩:=h
 rw[dep_end hk h0] at h2
 cases st with
 | nil=>cases h2
 | cons p st=>exact⟨p,st,rfl⟩
theorem ln_pop {p:Int×Int} (h:LnI l k s (p::st)) (hk:k<l.length) (h0:(l.getD k z3).1=kEnd):LnI l (k+1) (p.1+p.2*s) st:=by
 obtain⟨⟨h1,h2,h5⟩,h3,h4⟩:=h
 rw[dep_end hk h0] at h2
 have hp:=h4 p (List.mem_cons_self ..)
 refine⟨⟨(len_end hk h0).symm.trans h1,?_,by simp only[List.length_cons] at h5;omega⟩,?_,fun q hq=>h4 q (List.mem_cons_of_mem _ hq)⟩
 ·simpa using h2
 ·have:=Int.mul_nonneg (show 0≤p.2 by omega) h3
  omega
theorem ln_one (h:LnI l k s st) (hk:k<l.length) (h0:(l.getD k z3).1≠kRep) (h6:(l.getD k z3).1≠kEnd):LnI l (k+1) (s+1) st:=by
 obtain⟨⟨h1,h2,h5⟩,h3,h4⟩:=h
 rw[dep_one hk h0 h6] at h2
 exact⟨⟨(len_one hk h0 h6).symm.trans h1,h2,by omega⟩,by omega,h4⟩
theorem ln_end (h:LnI l k s st) (hk:¬k<l.length):(smL st s).getD 0 0=lenP l:=by
 obtain⟨⟨h1,h2,_⟩,_,_⟩:=h
 rw[dep_nil hk] at h2
 have:st=[]:=by
  split at h2
  ·cases h2
  ·exact List.eq_nil_of_length_eq_zero (by omega)
 subst this
 rw[List.drop_of_length_le (by omega)] at h1
 exact h1
end
end Go.Lens.Tm
end
section
namespace Go.Lens
set_option linter.unusedSectionVars false
variable [Lz]
theorem wrap_u8 {n:Int} (h0:0≤n) (h1:n<256):IntKind.wrap .u8 n=n:=by
 have e:n%(2 ^ 8:Int)=n:=Int.emod_eq_of_lt h0 (by omega)
 have hb:IntKind.u8.bits=8:=rfl
 have hs:IntKind.u8.signed=false:=rfl
 unfold IntKind.wrap
 simp only[hb,hs,e,Bool.false_and,Bool.false_eq_true,if_false]
section
variable {P:Program} {Y:Tab} [TabOk P Y] {nb:Nat} {s:St} {dst:Option Tmp} {ty u:TypeId} {pos:String} {af:Array Edge} {gd:Option (Nat×Bool)} {t:TypeId} {x y:Operand}
theorem B.subB {a b:Int} (hx:ev1 s x=lit (.int .u8 a)) (hy:ev1 s y=lit (.int .u8 b)) (h:0≤a-b∧a-b<256):Body P Y nb s ⟨dst,.binOp .sub t x y u,ty,pos,af,gd⟩ (lit (.int .u8 (a-b))) [] []:=by
 refine B.bin hx hy ?_
 show qE (some (true,lit (.int .u8 (IntKind.wrap .u8 (a-b)))))=_
 rw[wrap_u8 h.1 h.2];rfl
theorem B.ieqN {T:TypeId} {p:PV} {ms:Array (String×TypeId)} (hx:ev1 s x=.pv (.iface T p)) (und:Y.underlying t=some (.interface ms)):Body P Y nb s ⟨dst,.binOp .eql t x (.const .nilIface) u,ty,pos,af,gd⟩ (lit (.bool false)) [] []:=by
 refine .inr (SBody.of fun σ G a w hv hl I=>?_)
 have hX:=hv x (by simp[Op.operands])
 rw[hx] at hX
 simp only[RelDV,RelPV] at hX
 obtain⟨v,e,_⟩:=hX
 have ht:P.underlying t=some (.interface ms):=TabOk.und P und
 refine⟨.bool false,w,G,.inl ?_,stepped_same I.ctxS (RelDV_lit rfl) (fun k hk=>by simp[lit,DV.refs] at hk)⟩
 have h1:(binOp .eql t (.iface T v) .nilIface).run P w=.ok (.bool false) w:=by
  have h:∀ d:Nat,(Op.equalIn (d+2) t (.iface T v) .nilIface).run P w=.ok false w:=fun d=>by
   simp[Op.equalIn,run_underlying ht]
  simp only[binOp]
  simp[Op.equal,Op.maxDepth,h 9998]
 have hy:a.eval (.const .nilIface)=.nilIface:=rfl
 have hg:eqGuard .eql t x (.const .nilIface) (.iface T v) .nilIface=(Pure.pure ():Sem Unit):=by simp[eqGuard]
 simp only[execOp,e,hy,hg,Sem.run_bind,Sem.run_pure,Result.andThen_ok,h1]
theorem B.ieqE {ms:Array (String×TypeId)} (hx:ev1 s x=lit .nilIface) (und:Y.underlying t=some (.interface ms)):Body P Y nb s ⟨dst,.binOp .eql t x (.const .nilIface) u,ty,pos,af,gd⟩ (lit (.bool true)) [] []:=by
 refine .inr (SBody.of fun σ G a w hv hl I=>?_)
 have hX:=hv x (by simp[Op.operands])
 rw[hx] at hX
 have e:=(RelDV_lit_eq hX).1
 have ht:P.underlying t=some (.interface ms):=TabOk.und P und
 refine⟨.bool true,w,G,.inl ?_,stepped_same I.ctxS (RelDV_lit rfl) (fun k hk=>by simp[lit,DV.refs] at hk)⟩
 have h1:(binOp .eql t .nilIface .nilIface).run P w=.ok (.bool true) w:=by
  have h:∀ d:Nat,(Op.equalIn (d+2) t .nilIface .nilIface).run P w=.ok true w:=fun d=>by
   simp[Op.equalIn,run_underlying ht]
  simp only[binOp]
  simp[Op.equal,Op.maxDepth,h 9998]
 have hy:a.eval (.const .nilIface)=.nilIface:=rfl
 have hg:eqGuard .eql t x (.const .nilIface) .nilIface .nilIface=(Pure.pure ():Sem Unit):=by simp[eqGuard]
 simp only[execOp,e,hy,hg,Sem.run_bind,Sem.run_pure,Result.andThen_ok,h1]
theorem B.lenA {α:Type} {enc:α→List PV} {l:List α} {h v sz:Nat} {at' e T:TypeId} (hx:ev1 s x=.aref h v) (hm:lookM s.ms h=some (.arr v sz T (l.map enc))) (hu:Y.underlying at'=some (.slice e)):Body P Y nb s ⟨dst,.call ⟨.builtin .len,⟨[x]⟩,⟨[at']⟩⟩,ty,pos,af,gd⟩ (lit (.int .i64 (l.length:Int))) [] [h]:=by
 refine .inr (SBody.of fun σ G a w hv hl I=>?_)
 have hX:=hv x (by simp[Op.operands,Call.operands])
 rw[hx] at hX
 have hlk:lookM σ.ms h=some (.arr v sz T (l.map enc)):=by rw[hl h (.inl (by simp))];exact hm
 have hq:lenQ Y at' (lookM σ.ms) (.aref h v)=some (true,lit (.int .i64 (l.length:Int))):=by
  unfold lenQ
  rw[hu]
  simp[lenOf,hlk]
 obtain⟨r,h1,h2⟩:=lenQ_sound (P:=P) (ty:=ty) I.ctxS.sees hq hX
 refine⟨r,w,G,.inl ?_,stepped_same I.ctxS h2 (fun k hk=>by simp[lit,DV.refs] at hk)⟩
 simp only[execOp,resolve,Sem.run_bind,Sem.run_pure,Result.andThen_ok,invoke,builtin,List.map_toArray,List.map_cons,List.map_nil]
 rw[h1];rfl
theorem B.slTD {α:Type} {enc:α→List PV} {l:List α} {lo hi:Operand} {k k2:IntKind} {n m:Int} {i j:Nat} {e:TypeId} {sz:Nat} (hx:ev1 s x=.pv (.slice (l.map enc))) (hy:ev1 s lo=lit (.int k n)) (hz:ev1 s hi=lit (.int k2 m)) (hu:Y.underlying t=some (.slice e)) (hs:szT Y e=some sz) (hsz:∀ a,(enc a).length=sz) (hn:n=(i:Int)) (hm:m=(j:Int)) (hi1:i≤j) (hj:j≤l.length) :
 Body P Y nb s ⟨dst,.slice t x (some lo) (some hi) none,ty,pos,af,gd⟩ (.pv (.slice (((l.take j).drop i).map enc))) [] []:=by
 refine B.pure (lo:=0) (nm:=0) (O0_ok P) ?_ ?_
 ·intro z hz'
  have:z=x∨z=lo∨z=hi:=by simpa [Op.operands] using hz'
  rcases this with rfl|rfl|rfl
  ·rw[hx];rfl
  ·rw[hy];rfl
  ·rw[hz];rfl
 ·have e1:evU (tmpsOf [x,lo,hi]) s x=_:=(evU_own (by simp)).trans hx
  have e2:evU (tmpsOf [x,lo,hi]) s lo=_:=(evU_own (by simp)).trans hy
  have e3:evU (tmpsOf [x,lo,hi]) s hi=_:=(evU_own (by simp)).trans hz
  have hv:effV Y 0 dst (.slice t x (some lo) (some hi) none) (evU (tmpsOf [x,lo,hi]) s) (lookM [])=liftQ (sliceW Y t (lookM []) (evU (tmpsOf [x,lo,hi]) s x) (some (evU (tmpsOf [x,lo,hi]) s lo)) (some (evU (tmpsOf [x,lo,hi]) s hi)) none):=by
   show (match frzU (lookM []) (refsOf (evU (tmpsOf [x,lo,hi]) s) [x]) with
    | []=>stepV Y 0 dst (.slice t x (some lo) (some hi) none) (evU (tmpsOf [x,lo,hi]) s) (lookM []) (lookM [])
    | fz=>match stepV Y 0 dst (.slice t x (some lo) (some hi) none) (evU (tmpsOf [x,lo,hi]) s) (upd fz (lookM [])) (upd fz (lookM [])) with
     | some ⟨s,v,ms⟩=>some ⟨s,v,mrg ms fz⟩
     | none=>none)=_
   have hrf:refsOf (evU (tmpsOf [x,lo,hi]) s) [x]=[]:=by simp[refsOf,e1,DV.refs]
   rw[hrf];rfl
  show (match effV Y 0 dst (.slice t x (some lo) (some hi) none) (evU (tmpsOf [x,lo,hi]) s) (lookM []) with|some ⟨true,v,m⟩=>some (v,m)|_=>none)=_
  rw[hv,e1,e2,e3]
  have hal:allLen sz (l.map enc)=true:=by
   unfold allLen
   rw[List.all_eq_true]
   intro b hb
   obtain⟨c,_,rfl⟩:=List.mem_map.1 hb
   simpa using hsz c
  have hq:sliceW Y t (lookM []) (.pv (.slice (l.map enc))) (some (lit (.int k n))) (some (lit (.int k2 m))) none=some (true,.pv (.slice (((l.take j).drop i).map enc))):=by
   show sliceQ Y t (lookM []) (.pv (.slice (l.map enc))) (some (lit (.int k n))) (some (lit (.int k2 m))) none=_
   unfold sliceQ lit
   simp only[hu,hs,bound,Option.getD_some,hal,Bool.and_true]
   subst hn hm
   have:decide ((0:Int)≤(i:Int)∧(i:Int)≤(j:Int)∧(j:Int)≤((l.map enc).length:Int))=true:=decide_eq_true ⟨by omega,by omega,by rw[List.length_map];omega⟩
   rw[this,Int.toNat_natCast,Int.toNat_natCast,List.map_drop,List.map_take]
  rw[hq];rfl
theorem B.appendZ {α:Type} {enc:α→List PV} {l r:List α} {h v sz:Nat} {T:TypeId} {i:TypeInfo} {at1:TypeId} {d:Tmp} (hx:ev1 s x=.aref h v) (hm:lookM s.ms h=some (.arr v sz T (l.map enc))) (hy:ev1 s y=.pv (.slice (r.map enc)))
  (hu:Y.underlying at1=some (.slice T)) (hi:Y.info? T=some i) (hok:(Nat.blt 0 i.size&&i.zero.isSome&&Nat.beq (i.zero.getD default).cells.size i.size&&Nat.beq sz i.size)=true) (hsz:∀ a,(enc a).length=sz) {bs:Nat} (hbs:i.bytes=bs)
  (hlen:(l.length+r.length)*bs≤140737488355328∧l.length+r.length≤9223372036854775807) :
  Body P Y nb s ⟨some d,.call ⟨.builtin .append,⟨[x,y]⟩,⟨[at1,at1]⟩⟩,ty,pos,af,gd⟩ (.pv (.slice ((l++r).map enc))) [(h,.farr (v+1) ((l++r).map enc))] [h]:=by
 subst hbs
 simp only[Bool.and_eq_true,Nat.beq_eq,Nat.blt_eq] at hok
 obtain⟨⟨⟨k1,k2⟩,k3⟩,k4⟩:=hok
 subst k4
 have e1:evU (tmpsOf [x,y]) s x=.aref h v:=(evU_own (by simp)).trans hx
 have e2:evU (tmpsOf [x,y]) s y=.pv (.slice (r.map enc)):=(evU_own (by simp)).trans hy
 have hrs:([x,y].flatMap fun x'=>(evU (tmpsOf [x,y]) s x').refs)=[h]:=by simp[e1,e2,DV.refs]
 have hsel:sel s.ms (reachX s.ms 10000 [h] [])=[(h,.arr v i.size T (l.map enc))]:=by
  have:reachX s.ms 10000 [h] []=[h]:=by
   show (bif ([]:List Nat).any (Nat.beq h) then _ else _)=_
   simp only[List.any_nil,cond_false,hm,MO.refs,List.nil_append];rfl
  rw[this];simp only[sel,hm]
 refine .inl ⟨O0,[(h,.arr v i.size T (l.map enc))],_,_,0,0,O0_ok P,?_,?_,?_,?_,Frz.arr _ h (v+1) i.size T ((l++r).map enc),?_⟩
 ·show ledM s.ms ([x,y].flatMap fun x'=>(evU (tmpsOf [x,y]) s x').refs) 2=_
  rw[hrs];exact hsel
 ·show rdM s.ms ([x,y].flatMap fun x'=>(evU (tmpsOf [x,y]) s x').refs) [(h,.arr v i.size T (l.map enc))] 2=_
  rw[hrs];rfl
 ·show (closedM [(h,.arr v i.size T (l.map enc))]&&([x,y].flatMap fun x'=>(evU (tmpsOf [x,y]) s x').refs).all (hasM [(h,.arr v i.size T (l.map enc))]))=true
  rw[hrs]
  simp[closedM,MO.refs,hasM,lookM_cons]
 ·have ha:appendV Y 0 at1 at1 (.aref h v) (.pv (.slice (r.map enc))) (lookM [(h,.arr v i.size T (l.map enc))]) (lookM [(h,.arr v i.size T (l.map enc))])=some ⟨true,.aref h (v+1),[(h,.arr (v+1) i.size T ((l++r).map enc))]⟩:=by
   unfold appendV
   have hl:lookM [(h,MO.arr v i.size T (l.map enc))] h=some (.arr v i.size T (l.map enc)):=by rw[lookM_cons,if_pos rfl]
   have hs:srcOf Y at1 at1 i (lookM [(h,.arr v i.size T (l.map enc))]) (.aref h v) (.pv (.slice (r.map enc)))=some (r.map enc):=by
    unfold srcOf;simp[conts]
   have hq:(decide (0<i.size)&&i.zero.isSome&&decide ((i.zero.getD default).cells.size=i.size))=true:=by
    simp only[Bool.and_eq_true,decide_eq_true_eq];exact⟨⟨k1,k2⟩,k3⟩
   have hal:allLen i.size (r.map enc)=true:=by
    unfold allLen
    rw[List.all_eq_true]
    intro a ha
    obtain⟨b,_,rfl⟩:=List.mem_map.1 ha
    simpa using hsz b
   have hle:decide (((l.map enc).length+(r.map enc).length)*i.bytes≤140737488355328∧(l.map enc).length+(r.map enc).length≤9223372036854775807)=true:=by
    simp only[List.length_map];exact decide_eq_true hlen
   simp only[hu,hi,hs,hq,hl,if_true,and_self,hal,hle,Bool.and_self,List.map_append]
  have hv:effV Y 0 (some d) (.call ⟨.builtin .append,⟨[x,y]⟩,⟨[at1,at1]⟩⟩) (evU (tmpsOf [x,y]) s) (lookM [(h,.arr v i.size T (l.map enc))])=some ⟨true,.aref h (v+1),[(h,.arr (v+1) i.size T ((l++r).map enc))]⟩:=by
   show (match truncU _ (evU (tmpsOf [x,y]) s x) with|some (d',h',m)=>_|none=>appendV Y 0 at1 at1 (evU (tmpsOf [x,y]) s x) (evU (tmpsOf [x,y]) s y) _ _)=_
   rw[e1,e2]
   exact ha
  show (match effV Y 0 (some d) (.call ⟨.builtin .append,⟨[x,y]⟩,⟨[at1,at1]⟩⟩) (evU (tmpsOf [x,y]) s) (lookM [(h,.arr v i.size T (l.map enc))]) with|some ⟨true,v,m⟩=>some (v,m)|_=>none)=_
  rw[hv]
 ·simp[hasM,lookM_cons]
end
end Go.Lens
end
section
namespace Go.Lens.Tm
open Go.Lens.Tb Go.Proofs
set_option linter.unusedSectionVars false
theorem cEq (b c:UInt8):((b.toNat:Nat):Int)=((c.toNat:Nat):Int)↔b=c:=⟨fun h=>UInt8.toNat_inj.1 (by omega),fun h=>by rw[h]⟩
def splG (c:UInt8):List UInt8→List UInt8→List (List UInt8)
 | acc,[]=>[acc]
 | acc,b::r=>bif decide (((b.toNat:Nat):Int)=((c.toNat:Nat):Int)) then acc::splG c [] r else splG c (acc++[b]) r
def splC (c:UInt8) (s:List UInt8):List (List UInt8):=splG c [] s
theorem splG_32:∀ (s acc:List UInt8),splG 32 acc s=splGo acc s
 | [],acc=>rfl
 | b::r,acc=>by
  have h1:=splG_32 r []
  have h2:=splG_32 r (acc++[b])
  show (bif decide (((b.toNat:Nat):Int)=32) then acc::splG 32 [] r else splG 32 (acc++[b]) r)=_
  rw[h1,h2];rfl
theorem splC_32 (s:List UInt8):splC 32 s=splS s:=splG_32 s []
theorem splG_len (c:UInt8):∀ (s acc:List UInt8),(splG c acc s).length≤s.length+1
 | [],acc=>Nat.le_refl _
 | b::r,acc=>by
  simp only[splG]
  cases decide (((b.toNat:Nat):Int)=((c.toNat:Nat):Int))
  ·have:=splG_len c r (acc++[b]);simp only[cond_false,List.length_cons];omega
  ·have:=splG_len c r [];simp only[cond_true,List.length_cons];omega
theorem splC_len (c:UInt8) (s:List UInt8):(splC c s).length≤s.length+1:=splG_len c s []
theorem splG_mem (c:UInt8):∀ (s acc:List UInt8),∀ w∈splG c acc s,w.length≤acc.length+s.length
 | [],acc,w,h=>by
  have:w=acc:=by simpa [splG] using h
  rw[this];simp
 | b::r,acc,w,h=>by
  simp only[splG] at h
  revert h
  cases decide (((b.toNat:Nat):Int)=((c.toNat:Nat):Int))
  ·intro h;have:=splG_mem c r (acc++[b]) w (by simpa using h);simp only[List.length_append,List.length_cons,List.length_nil] at this ⊢;omega
  ·intro h
   rcases List.mem_cons.1 (by simpa using h) with rfl|h
   ·omega
   ·have:=splG_mem c r [] w h;simp only[List.length_cons,List.length_nil] at this ⊢;omega
theorem splC_mem {c:UInt8} {s w:List UInt8} (h:w∈splC c s):w.length≤s.length:=by
 have:=splG_mem c s [] w h;simpa using this
theorem spc_no {c:UInt8} {s:List UInt8} {i f:Nat} (hf:f≤i) (hi:i<s.length) (h:¬((s.getD i 0).toNat:Int)=((c.toNat:Nat):Int)):splG c ((s.take i).drop f) (s.drop i)=splG c ((s.take (i+1)).drop f) (s.drop (i+1)):=by
 rw[drop_at s i 0 hi,splG,decide_eq_false h,cond_false,mid_snoc hf hi]
theorem spc_yes {c:UInt8} {s:List UInt8} {i f:Nat} (hi:i<s.length) (h:((s.getD i 0).toNat:Int)=((c.toNat:Nat):Int)):splG c ((s.take i).drop f) (s.drop i)=(s.take i).drop f::splG c ((s.take (i+1)).drop (i+1)) (s.drop (i+1)):=by
 rw[drop_at s i 0 hi,splG,decide_eq_true h,cond_true]
 congr 2
 rw[List.drop_eq_nil_of_le (by rw[List.length_take];omega)]
theorem spc_end {c:UInt8} {s:List UInt8} {i f:Nat} (hi:i=s.length):splG c ((s.take i).drop f) (s.drop i)=[(s.take i).drop f]:=by
 have e:s.drop i=[]:=List.drop_eq_nil_of_le (by omega)
 rw[e];rfl
def SpcI (c:UInt8) (s:List UInt8) (i f:Nat) (out:List (List UInt8)):Prop:=f≤i∧out.length≤i∧((i≤s.length∧splC c s=out++splG c ((s.take i).drop f) (s.drop i))∨(i=s.length+1∧splC c s=out))
theorem spcI0 {c:UInt8} (s:List UInt8):SpcI c s 0 0 []:=⟨Nat.le_refl _,Nat.zero_le _,.inl ⟨Nat.zero_le _,rfl⟩⟩
theorem spc_at {c:UInt8} {s:List UInt8} {i f:Nat} {out:List (List UInt8)} (h:SpcI c s i f out) (hi:((i:Nat):Int)≤((List.length s:Nat):Int)):f≤i∧out.length≤i∧i≤s.length∧splC c s=out++splG c ((s.take i).drop f) (s.drop i):=by
 obtain⟨h1,h2,⟨h3,h4⟩|⟨h3,_⟩⟩:=h
 ·exact⟨h1,h2,h3,h4⟩
 ·omega
theorem spc_out {c:UInt8} {s:List UInt8} {i f:Nat} {out:List (List UInt8)} (h:SpcI c s i f out) (hi:¬((i:Nat):Int)≤((List.length s:Nat):Int)):out=splC c s:=by
 obtain⟨_,_,⟨h3,_⟩|⟨_,h4⟩⟩:=h
 ·omega
 ·exact h4.symm
theorem spc_c {c:UInt8} {s:List UInt8} {i:Nat} (hi:i≤s.length) {b:Bool} (h:(bif decide (((i:Nat):Int)=((List.length s:Nat):Int)) then true else decide ((byteAt (bsO s) i)=((c.toNat:Nat):Int)))=b) :
 (b=true→i=s.length∨(i<s.length∧((s.getD i 0).toNat:Int)=((c.toNat:Nat):Int)))∧(b=false→i<s.length∧¬((s.getD i 0).toNat:Int)=((c.toNat:Nat):Int)):=by
 have e:byteAt (bsO s) i=((s.getD i 0).toNat:Int):=rfl
 rw[e,bif_or] at h
 constructor
 ·rintro rfl
  simp only[Bool.or_eq_true,decide_eq_true_eq] at h
  rcases h with h|h
  ·exact .inl (by omega)
  ·by_cases hq:i=s.length
   ·exact .inl hq
   ·exact .inr ⟨by omega,h⟩
 ·rintro rfl
  simp only[Bool.or_eq_false_iff,decide_eq_false_iff_not] at h
  exact⟨by omega,h.2⟩
theorem spc_stepY {c:UInt8} {s:List UInt8} {i f:Nat} {out:List (List UInt8)} (h:SpcI c s i f out) (hi:((i:Nat):Int)≤((List.length s:Nat):Int)) (h3:(bif decide (((i:Nat):Int)=((List.length s:Nat):Int)) then true else decide ((byteAt (bsO s) i)=((c.toNat:Nat):Int)))=true):SpcI c s (i+1) (i+1) (out++[(s.take i).drop f]):=by
 obtain⟨h1,h2,h4,h5⟩:=spc_at h hi
 refine⟨Nat.le_refl _,by simp only[List.length_append,List.length_cons,List.length_nil];omega,?_⟩
 rcases (spc_c h4 h3).1 rfl with hq|⟨hq,hc⟩
 ·right;rw[spc_end hq] at h5;exact⟨by omega,h5⟩
 ·left;rw[spc_yes hq hc] at h5
  exact⟨by omega,by rw[h5,List.append_assoc];rfl⟩
theorem spc_stepN {c:UInt8} {s:List UInt8} {i f:Nat} {out:List (List UInt8)} (h:SpcI c s i f out) (hi:((i:Nat):Int)≤((List.length s:Nat):Int)) (h3:(bif decide (((i:Nat):Int)=((List.length s:Nat):Int)) then true else decide ((byteAt (bsO s) i)=((c.toNat:Nat):Int)))=false):SpcI c s (i+1) f out:=by
 obtain⟨h1,h2,h4,h5⟩:=spc_at h hi
 obtain⟨hq,hc⟩:=(spc_c h4 h3).2 rfl
 exact⟨by omega,by omega,.inl ⟨by omega,by rw[h5,spc_no h1 hq hc]⟩⟩
theorem splG_none {c:UInt8}:∀ (s acc:List UInt8),c∉s→splG c acc s=[acc++s]
 | [],acc,_=>by simp[splG]
 | b::r,acc,h=>by
  simp only[List.mem_cons,not_or] at h
  simp only[splG]
  rw[decide_eq_false (p:=((b.toNat:Nat):Int)=((c.toNat:Nat):Int)) (fun e=>h.1 ((cEq b c).1 e).symm),cond_false,splG_none r _ h.2];simp
theorem splG_at {c:UInt8}:∀ (s acc:List UInt8) (n:Nat),n<s.length→s.getD n 0=c→(∀ j,j<n→s.getD j 0≠c)→splG c acc s=(acc++s.take n)::splG c [] (s.drop (n+1))∧List.count c s=List.count c (s.drop (n+1))+1
 | [],_,n,h,_,_=>by simp at h
 | b::r,acc,0,_,h,_=>by
  have hb:b=c:=h
  simp only[splG]
  rw[decide_eq_true (p:=((b.toNat:Nat):Int)=((c.toNat:Nat):Int)) ((cEq b c).2 hb),cond_true]
  exact⟨by simp,by rw[hb];simp⟩
 | b::r,acc,n+1,h1,h2,h3=>by
  have hb:b≠c:=h3 0 (by omega)
  obtain⟨k1,k2⟩:=splG_at r (acc++[b]) n (by simpa using h1) (by simpa using h2) fun j hj=>by simpa using h3 (j+1) (by omega)
  simp only[splG]
  rw[decide_eq_false (p:=((b.toNat:Nat):Int)=((c.toNat:Nat):Int)) (fun e=>hb ((cEq b c).1 e)),cond_false,k1]
  exact⟨by simp,by rw[List.count_cons_of_ne hb];simpa using k2⟩
def GsC (c:UInt8) (s:List UInt8) (n2 i:Nat) (a:List (List UInt8)) (q:List UInt8):Prop:=a.length=n2∧q.length≤s.length∧i+List.count c q+1=n2∧splC c s=a.take i++splC c q
theorem gsc_step {c:UInt8} {s q:List UInt8} {n2 i m:Nat} {a:List (List UInt8)} (h:GsC c s n2 i a q) (e:Lib.indexByte q c=(m:Int)) (hm:m<q.length) (h2:q.getD m 0=c) (h3:∀ j,j<m→q.getD j 0≠c):GsC c s n2 (i+1) (a.set i (q.take m)) (q.drop (m+1)):=by
 obtain⟨k1,k2,k3,k4⟩:=h
 obtain⟨g1,g2⟩:=splG_at q [] m hm h2 h3
 refine⟨by rw[List.length_set];exact k1,by rw[List.length_drop];omega,by omega,?_⟩
 have hi:i<a.length:=by omega
 rw[k4]
 unfold splC
 rw[g1,List.take_add_one,List.getElem?_set_self hi,List.take_set_of_le (Nat.le_refl _)]
 simp
theorem gsc_end {c:UInt8} {s q:List UInt8} {n2 i:Nat} {a:List (List UInt8)} (h:GsC c s n2 i a q) (hq:c∉q):(a.set i q).take (i+1)=splC c s:=by
 obtain⟨k1,k2,k3,k4⟩:=h
 have hi:i<a.length:=by omega
 rw[k4]
 unfold splC
 rw[splG_none q [] hq,List.take_add_one,List.getElem?_set_self hi,List.take_set_of_le (Nat.le_refl _)]
 rfl
theorem gsc_no {c:UInt8} {s q:List UInt8} {n2 i:Nat} {a:List (List UInt8)} (h:GsC c s n2 i a q) (hc:¬((i:Nat):Int)<((n2:Nat):Int)-1):c∉q:=by
 obtain⟨_,_,k3,_⟩:=h
 exact List.count_eq_zero.1 (by omega)
def fullW (l:List (List UInt8)):List (List UInt8):=l.filter fun w=>decide (w≠[])
def wordsP (s:List UInt8):List (List UInt8):=fullW (splS s)
theorem fullW_take {l:List (List UInt8)} {k:Nat} (h:k<l.length):fullW (l.take (k+1))=if l.getD k []≠[] then fullW (l.take k)++[l.getD k []] else fullW (l.take k):=by
 unfold fullW
 rw[List.take_add_one,List.getElem?_eq_getElem h,List.getD_eq_getElem?_getD,List.getElem?_eq_getElem h,Option.getD_some,List.filter_append]
 by_cases h0:l[k]=[]
 ·simp[h0]
 ·simp[h0]
theorem wordsP_mem {s w:List UInt8} (h:w∈wordsP s):w.length≤s.length:=by
 have h1:w∈splS s:=(List.mem_filter.1 h).1
 rw[←splC_32] at h1
 exact splC_mem h1
def intG:Int→List UInt8→Option Int
 | n,[]=>some n
 | n,b::r=>if (bif decide (((b.toNat:Nat):Int)<48) then true else decide (57<((b.toNat:Nat):Int)))=true then none else intG (10*n+(((b.toNat:Nat):Int)-48)) r
def noI (s:List UInt8):Bool:=(bif (bif (decide (((List.length s:Nat):Int)=0)) then true else (decide (9<((List.length s:Nat):Int)))) then true else (bif (decide (1<((List.length s:Nat):Int))) then (decide ((byteAt (bsO s) 0)=48)) else false))
def intR (s:List UInt8):Option Int:=if noI s=true then none else intG 0 s
theorem noI_len {s:List UInt8} (h:noI s=false):1≤s.length∧s.length≤9∧(1<s.length→¬byteAt (bsO s) 0=48):=by
 unfold noI at h
 simp only[bif_or,bif_and,Bool.or_eq_false_iff,decide_eq_false_iff_not,Bool.and_eq_false_iff] at h
 refine⟨by omega,by omega,fun h1=>?_⟩
 rcases h.2 with h2|h2
 ·omega
 ·exact h2
theorem intR_no {s:List UInt8} (h:noI s=true):intR s=none:=if_pos h
theorem intR_go {s:List UInt8} (h:noI s=false):intR s=intG 0 s:=by unfold intR;rw[if_neg (by rw[h];decide)]
theorem intG_step {s:List UInt8} {k:Nat} {n:Int} (hk:k<s.length) (h:(bif (decide ((byteAt (bsO s) k)<48)) then true else (decide (57<(byteAt (bsO s) k))))=false):intG n (s.drop k)=intG (10*n+((byteAt (bsO s) k)-48)) (s.drop (k+1)):=by
 rw[drop_at s k 0 hk,intG]
 have h':(bif decide ((((s.getD k 0).toNat:Nat):Int)<48) then true else decide (57<(((s.getD k 0).toNat:Nat):Int)))=false:=h
 rw[h',if_neg (by decide)];rfl
theorem intG_bad {s:List UInt8} {k:Nat} {n:Int} (hk:k<s.length) (h:(bif (decide ((byteAt (bsO s) k)<48)) then true else (decide (57<(byteAt (bsO s) k))))=true):intG n (s.drop k)=none:=by
 rw[drop_at s k 0 hk,intG]
 have h':(bif decide ((((s.getD k 0).toNat:Nat):Int)<48) then true else decide (57<(((s.getD k 0).toNat:Nat):Int)))=true:=h
 rw[h',if_pos rfl]
theorem dig_rng {a:Int} (h:(bif (decide (a<48)) then true else (decide (57<a)))=false):48≤a∧a≤57:=by
 simp only[bif_or,Bool.or_eq_false_iff,decide_eq_false_iff_not] at h
 omega
theorem pow_bd {k:Nat} (h:k≤9):(10:Int) ^ k≤1000000000:=by
 have:(10:Nat) ^ k≤10 ^ 9:=Nat.pow_le_pow_right (by decide) h
 have e:((10:Int) ^ k)=(((10:Nat) ^ k:Nat):Int):=by norm_cast
 rw[e];omega
theorem pow_s (k:Nat):(10:Int) ^ (k+1)=10*10 ^ k:=by rw[Int.pow_succ];omega
def intV (s:List UInt8):Int×Bool:=match Lib.atoiAll s with
 | .ok v=>(v,decide (0≤v∧v≤999999999∧Lib.itoa v=s))
 | .range=>(Lib.atoiSat s,false)
 | _=>(0,false)
theorem dd_small {u:Nat} (h:u<10):Lib.decDigits u=[UInt8.ofNat (48+u)]:=by rw[Lib.decDigits,dif_pos h]
theorem dd_big {u:Nat} (h:¬u<10):Lib.decDigits u=Lib.decDigits (u / 10)++[UInt8.ofNat (48+u%10)]:=by rw[Lib.decDigits,dif_neg h]
theorem itoa_nat (n:Nat):Lib.itoa (n:Int)=Lib.decDigits n:=by
 unfold Lib.itoa;rw[if_neg (by omega),Int.toNat_natCast]
theorem byte_ok {b:UInt8} (h:48≤b.toNat∧b.toNat≤57):(bif decide (((b.toNat:Nat):Int)<48) then true else decide (57<((b.toNat:Nat):Int)))=false:=by
 rw[decide_eq_false (by omega),decide_eq_false (by omega)];rfl
theorem byte_no {b:UInt8} (h:¬(48≤b.toNat∧b.toNat≤57)):(bif decide (((b.toNat:Nat):Int)<48) then true else decide (57<((b.toNat:Nat):Int)))=true:=by
 rw[bif_or];simp only[Bool.or_eq_true,decide_eq_true_eq];omega
theorem intG_cons {b:UInt8} {r:List UInt8} {n:Int} (h:48≤b.toNat∧b.toNat≤57):intG n (b::r)=intG (10*n+(((b.toNat:Nat):Int)-48)) r:=by
 rw[intG,byte_ok h,if_neg (by decide)]
theorem intG_none {b:UInt8} {r:List UInt8} {n:Int} (h:¬(48≤b.toNat∧b.toNat≤57)):intG n (b::r)=none:=by
 rw[intG,byte_no h,if_pos rfl]
theorem intG_app:∀ (l r:List UInt8) (n:Int),intG n (l++r)=(intG n l).bind fun m=>intG m r
 | [],r,n=>rfl
 | b::l,r,n=>by
  by_cases h:48≤b.toNat∧b.toNat≤57
  ·rw[List.cons_append,intG_cons h,intG_cons h,intG_app l r]
  ·rw[List.cons_append,intG_none h,intG_none h];rfl
theorem dg_nat {k:Nat} (h:k<10):(UInt8.ofNat (48+k)).toNat=48+k:=by
 rw[UInt8.toNat_ofNat'];omega
theorem intG_dec (n:Nat):intG 0 (Lib.decDigits n)=some (n:Int):=by
 induction n using Nat.strongRecOn with
 | _ n ih=>
  by_cases h:n<10
  ·rw[dd_small h,intG_cons (by rw[dg_nat h];omega),dg_nat h]
   simp only[intG];congr 1;omega
  ·rw[dd_big h,intG_app,ih (n / 10) (by omega)]
   show intG ((n / 10:Nat):Int) [UInt8.ofNat (48+n%10)]=_
   rw[intG_cons (by rw[dg_nat (by omega)];omega),dg_nat (by omega)]
   simp only[intG];congr 1;omega
theorem nd_le:∀ (k n:Nat),n<10 ^ (k+1)→Lib.nDigits n≤k+1
 | 0,n,h=>by rw[Lib.nDigits_small (by simpa using h)];exact Nat.le_refl _
 | k+1,n,h=>by
  by_cases h1:n<10
  ·rw[Lib.nDigits_small h1];omega
  ·rw[Lib.nDigits_big h1]
   rw[Nat.pow_succ] at h
   have:=nd_le k (n / 10) (by omega)
   omega
theorem dd_len {n:Nat} (h:n≤999999999):(Lib.decDigits n).length≤9:=by
 rw[Lib.decDigits_length]
 exact nd_le 8 n (by omega)
theorem dd_pos (n:Nat):1≤(Lib.decDigits n).length:=by
 rw[Lib.decDigits_length]
 exact Lib.nDigits_pos n
theorem dd_head (n:Nat) (h:1≤n):((Lib.decDigits n).getD 0 0).toNat≠48:=by
 induction n using Nat.strongRecOn with
 | _ n ih=>
  by_cases h1:n<10
  ·rw[dd_small h1]
   show (UInt8.ofNat (48+n)).toNat≠48
   rw[dg_nat h1];omega
  ·rw[dd_big h1,List.getD_eq_getElem?_getD,List.getElem?_append_left (dd_pos _),←List.getD_eq_getElem?_getD]
   exact ih (n / 10) (by omega) (by omega)
theorem noI_dec {n:Nat} (h:n≤999999999):noI (Lib.decDigits n)=false:=by
 have h1:=dd_len h
 have h2:=dd_pos n
 unfold noI
 rw[decide_eq_false (p:=((List.length (Lib.decDigits n):Nat):Int)=0) (by omega),decide_eq_false (p:=9<((List.length (Lib.decDigits n):Nat):Int)) (by omega)]
 show (bif (decide (1<((List.length (Lib.decDigits n):Nat):Int))) then (decide ((byteAt (bsO (Lib.decDigits n)) 0)=48)) else false)=false
 rw[bif_and]
 by_cases h10:n<10
 ·rw[decide_eq_false (p:=1<((List.length (Lib.decDigits n):Nat):Int)) (by rw[dd_small h10];simp)];rfl
 ·have:=dd_head n (by omega)
  rw[decide_eq_false (p:=(byteAt (bsO (Lib.decDigits n)) 0)=48) (by
   show ¬((((Lib.decDigits n).getD 0 0).toNat:Nat):Int)=48
   omega)]
  simp
theorem intR_dec {n:Nat} (h:n≤999999999):intR (Lib.decDigits n)=some (n:Int):=by
 rw[intR_go (noI_dec h),intG_dec]
theorem dec_of:∀ (s:List UInt8) (a:Nat) (m:Int),1≤a→intG (a:Int) s=some m→∃ q:Nat,m=(q:Int)∧Lib.decDigits q=Lib.decDigits a++s
 | [],a,m,_,h=>by
  simp only[intG,Option.some.injEq] at h
  exact⟨a,h.symm,by simp⟩
 | b::r,a,m,ha,h=>by
  by_cases hb:48≤b.toNat∧b.toNat≤57
  ·rw[intG_cons hb,show (10*(a:Int)+(((b.toNat:Nat):Int)-48))=((10*a+(b.toNat-48):Nat):Int) by omega] at h
   obtain⟨q,h1,h2⟩:=dec_of r (10*a+(b.toNat-48)) m (by omega) h
   refine⟨q,h1,?_⟩
   rw[h2,dd_big (u:=10*a+(b.toNat-48)) (by omega),show (10*a+(b.toNat-48)) / 10=a by omega,show 48+(10*a+(b.toNat-48))%10=b.toNat by omega]
   simp
  ·rw[intG_none hb] at h;cases h
theorem decFrom_of:∀ (s:List UInt8) (a:Nat),Lib.decFrom a s=(intG (a:Int) s).map Int.toNat
 | [],a=>by simp[Lib.decFrom,intG]
 | b::l,a=>by
  by_cases hb:48≤b.toNat∧b.toNat≤57
  ·rw[intG_cons hb,show (10*(a:Int)+(((b.toNat:Nat):Int)-48))=((a*10+(b.toNat-48):Nat):Int) by omega,←decFrom_of l]
   simp only[Lib.decFrom,Lib.digitVal,if_pos hb]
  ·rw[intG_none hb]
   simp only[Lib.decFrom,Lib.digitVal,if_neg hb];rfl
theorem intR_some {s:List UInt8} {m:Int} (h:intR s=some m):∃ q:Nat,m=(q:Int)∧q≤999999999∧Lib.decDigits q=s∧Lib.atoiAll s=.ok m:=by
 have hn:noI s=false:=by
  cases hq:noI s with
  | true=>rw[intR_no hq] at h;cases h
  | false=>rfl
 rw[intR_go hn] at h
 obtain⟨l1,l9,lz⟩:=noI_len hn
 match s,h,l1,l9,lz with
 | b::r,h,l1,l9,lz=>
 by_cases hb:48≤b.toNat∧b.toNat≤57
 ·have h':=h
  rw[intG_cons hb,show (10*(0:Int)+(((b.toNat:Nat):Int)-48))=((b.toNat-48:Nat):Int) by omega] at h
  have hq:∃ q:Nat,m=(q:Int)∧Lib.decDigits q=b::r:=by
   by_cases h0:b.toNat=48
   ·cases r with
    | nil=>
     simp only[intG,Option.some.injEq] at h
     refine⟨0,by omega,?_⟩
     rw[dd_small (by omega)]
     have:b=48:=UInt8.toNat_inj.1 h0
     rw[this];rfl
    | cons b2 r2=>
     exact absurd (show byteAt (bsO (b::b2::r2)) 0=48 by
      show ((b.toNat:Nat):Int)=48
      omega) (lz (by simp))
   ·obtain⟨q,h1,h2⟩:=dec_of r (b.toNat-48) m (by omega) h
    refine⟨q,h1,?_⟩
    rw[h2,dd_small (by omega),show 48+(b.toNat-48)=b.toNat by omega]
    simp
  obtain⟨q,rfl,hd⟩:=hq
  have hf:Lib.decFrom 0 (b::r)=some q:=by
   rw[decFrom_of]
   show (intG 0 (b::r)).map Int.toNat=_
   rw[h'];rfl
  have hlt:=Lib.decFrom_lt _ _ _ hf
  have hp:(10:Nat) ^ (b::r).length≤10 ^ 9:=Nat.pow_le_pow_right (by decide) l9
  refine⟨q,rfl,by omega,hd,?_⟩
  rw[Lib.atoiAll_short _ (by omega)]
  have hbe:(b==45)=false∧(b==43)=false:=by
   constructor<;>(rw[beq_eq_false_iff_ne];rintro rfl;revert hb;decide)
  simp only[Lib.atoi,hbe.1,hbe.2,Lib.decNat,List.isEmpty_cons,hf]
  rfl
 ·rw[intG_none hb] at h;cases h
theorem int_same (s:List UInt8):(intV s).2=(intR s).isSome∧((intR s).isSome=true→(intV s).1=(intR s).getD 0):=by
 cases h:intR s with
 | some m=>
  obtain⟨q,rfl,hq,hd,ha⟩:=intR_some h
  simp only[intV,ha]
  exact⟨by
   rw[decide_eq_true (p:=0≤(q:Int)∧(q:Int)≤999999999∧Lib.itoa (q:Int)=s) ⟨by omega,by omega,by rw[itoa_nat,hd]⟩];rfl,fun _=>rfl⟩
 | none=>
  refine⟨?_,fun h=>by cases h⟩
  show (intV s).2=false
  unfold intV
  split
  ·rename_i v hv
   refine decide_eq_false ?_
   rintro⟨h0,h1,h2⟩
   obtain⟨n,rfl⟩:∃ n:Nat,v=(n:Int):=⟨v.toNat,by omega⟩
   rw[itoa_nat] at h2
   rw[←h2,intR_dec (by omega)] at h
   cases h
  ·rfl
  ·rfl
end Go.Lens.Tm
end
section
namespace Go.Lens.Tm
open Go.Lens.Tb Go.Proofs
set_option linter.unusedSectionVars false
def joinC:List (List UInt8)→List UInt8
 | []=>[]
 | w::r=>w++r.flatMap fun x=>59::32::x
theorem joinC_snoc (l:List (List UInt8)) (w:List UInt8):joinC (l++[w])=(if 0<l.length then joinC l++[59,32] else joinC l)++w:=by
 cases l with
 | nil=>simp[joinC]
 | cons a l=>simp[joinC]
theorem joinC_len (N:Nat):∀ (ws:List (List UInt8)),(∀ w∈ws,w.length≤N)→(joinC ws).length≤ws.length*(N+2)
 | [],_=>by simp[joinC]
 | w::r,h=>by
  have key:∀ r:List (List UInt8),(∀ w∈r,w.length≤N)→(r.flatMap fun x=>59::32::x).length≤r.length*(N+2):=by
   intro r
   induction r with
   | nil=>intro _;simp
   | cons a r ih=>
    intro hr
    have h1:=ih fun w hw=>hr w (by simp[hw])
    have h2:=hr a (by simp)
    simp only[List.flatMap_cons,List.length_append,List.length_cons,Nat.add_mul,Nat.one_mul]
    omega
  have h1:=key r fun w hw=>h w (by simp[hw])
  have h2:=h w (by simp)
  simp only[joinC,List.length_append,List.length_cons,Nat.add_mul,Nat.one_mul]
  omega
def Join2Ok [Lz]:Prop:=∀ ws:List (List UInt8),ws.length≤1000→(∀ w∈ws,w.length≤1000)→CallOk Tryz.prog 169 [vL eN ws,vS (bsO [59,32])] (lookM []) (vS (bsO (joinC ws))) []
def prtW (c:Cmd):List UInt8:=if c.1=kAct then [97,99,116,32]++c.2.1 else if c.1=kEnd then kEnd else (c.1++[32])++Lib.itoa c.2.2
def sA (s:List UInt8) (k:Nat):List UInt8:=if 0<k then s++[59,32] else s
def sB (c:Cmd) (q:List UInt8):List UInt8:=if c.2.1=[] then q else (q++[32])++c.2.1
def sC (c:Cmd) (q:List UInt8):List UInt8:=if c.2.2=0 then q else (q++[32])++Lib.itoa c.2.2
theorem itoa_len {n:Int} (h0:0≤n) (h1:n≤999999999):(Lib.itoa n).length≤9:=by
 obtain⟨k,rfl⟩:∃ k:Nat,n=(k:Int):=⟨n.toNat,by omega⟩
 rw[itoa_nat];exact dd_len (by omega)
theorem sA_len (s:List UInt8) (k:Nat):(sA s k).length≤s.length+2:=by
 unfold sA;split<;>simp
theorem sB_len (c:Cmd) (q:List UInt8):(sB c q).length≤q.length+1+c.2.1.length:=by
 unfold sB;split
 ·omega
 ·simp only[List.length_append,List.length_cons,List.length_nil];omega
theorem name24 {w:List UInt8} (h:isNameF (bsO w)=true):1≤w.length∧w.length≤24:=by
 unfold isNameF at h
 simp only[Bool.and_eq_true,decide_eq_true_eq] at h
 exact h.1
theorem cmd_cases {c:Cmd} (h:chkC c=0):(c.1=kAct∧isNameF (bsO c.2.1)=true∧c.2.2=0)∨(c.1=kEnd∧c.2.1=[]∧c.2.2=0)∨((c.1=kWait∨c.1=kRep)∧c.2.1=[]∧1≤c.2.2∧c.2.2≤100000):=by
 have hw:∀ {b:Bool},whenF b 1=0→b=false:=by intro b;cases b<;>decide
 have hw8:∀ {b:Bool},whenF b 8=0→b=false:=by intro b;cases b<;>decide
 have h':=h
 unfold chkC at h
 rcases ops_of h' with h1|h1|h1|h1
 ·rw[if_pos h1] at h
  obtain⟨k1,k2⟩:=first2 h
  have:=with_rng k2
  exact .inl ⟨h1,by have:=hw8 k1;simpa using this,by omega⟩
 ·rw[if_neg (by rw[h1];decide),if_pos h1] at h
  obtain⟨k1,k2⟩:=first2 h
  have:=with_rng k2
  exact .inr (.inl ⟨h1,by have:=hw k1;simpa using this,by omega⟩)
 ·rw[if_neg (by rw[h1];decide),if_neg (by rw[h1];decide),if_pos h1] at h
  obtain⟨k1,k2⟩:=first2 h
  have:=with_rng k2
  exact .inr (.inr ⟨.inl h1,by have:=hw k1;simpa using this,by omega,by omega⟩)
 ·rw[if_neg (by rw[h1];decide),if_neg (by rw[h1];decide),if_neg (by rw[h1];decide),if_pos h1] at h
  obtain⟨k1,k2⟩:=first2 h
  have:=with_rng k2
  exact .inr (.inr ⟨.inr h1,by have:=hw k1;simpa using this,by omega,by omega⟩)
theorem cmd_sz {c:Cmd} (h:chkC c=0):c.1.length≤6∧c.2.1.length≤24∧0≤c.2.2∧c.2.2≤100000:=by
 rcases cmd_cases h with ⟨h1,h2,h3⟩|⟨h1,h2,h3⟩|⟨h1|h1,h2,h3,h4⟩
 ·rw[h1,h3];exact⟨by decide,(name24 h2).2,by omega,by omega⟩
 ·rw[h1,h2,h3];exact⟨by decide,by decide,by omega,by omega⟩
 ·rw[h1,h2];exact⟨by decide,by decide,by omega,h4⟩
 ·rw[h1,h2];exact⟨by decide,by decide,by omega,h4⟩
theorem src_cmd {c:Cmd} (h:chkC c=0) (q:List UInt8):sC c (sB c (q++c.1))=q++prtW c:=by
 rcases cmd_cases h with ⟨h1,h2,h3⟩|⟨h1,h2,h3⟩|⟨h1,h2,h3,h4⟩
 ·have hn:c.2.1≠[]:=by
   intro e
   have:=(name24 h2).1
   rw[e] at this;cases this
  unfold sC sB prtW
  rw[if_pos h3,if_neg hn,if_pos h1,h1]
  simp[kAct]
 ·unfold sC sB prtW
  rw[if_pos h3,if_pos h2,if_neg (by rw[h1];decide),if_pos h1,h1]
 ·have hk:c.1≠kAct∧c.1≠kEnd:=by rcases h1 with h1|h1<;>rw[h1]<;>decide
  unfold sC sB prtW
  rw[if_neg (by omega),if_pos h2,if_neg hk.1,if_neg hk.2]
  simp
theorem prtW_len {c:Cmd} (h:chkC c=0):(prtW c).length≤40:=by
 have hz:=cmd_sz h
 have hi:=itoa_len (n:=c.2.2) (by omega) (by omega)
 unfold prtW
 split
 ·simp only[List.length_append,List.length_cons,List.length_nil];omega
 ·split
  ·decide
  ·simp only[List.length_append,List.length_cons,List.length_nil];omega
def prtS (l:List Cmd):List UInt8:=joinC (l.map prtW)
theorem prtS_len {l:List Cmd} (h:∀ c∈l,chkC c=0):(prtS l).length≤l.length*42:=by
 have:=joinC_len 40 (l.map prtW) (fun w hw=>by
  obtain⟨c,hc,rfl⟩:=List.mem_map.1 hw
  exact prtW_len (h c hc))
 rwa [List.length_map] at this
theorem prtW_mem {l:List Cmd} (h:∀ c∈l,chkC c=0):∀ w∈l.map prtW,w.length≤1000:=by
 intro w hw
 obtain⟨c,hc,rfl⟩:=List.mem_map.1 hw
 have:=prtW_len (h c hc);omega
theorem take_cmd2 (l:List Cmd) (k:Nat) (h:k<l.length):l.take (k+1)=l.take k++[l.getD k z3]:=by
 rw[List.take_add_one,List.getElem?_eq_getElem h,List.getD_eq_getElem?_getD,List.getElem?_eq_getElem h];rfl
theorem src_next {l:List Cmd} {k:Nat} {s:List UInt8} (hc:∀ c∈l,chkC c=0) (hk:k<l.length) (hs:s=prtS (l.take k)):sC (l.getD k z3) (sB (l.getD k z3) (sA s k++(l.getD k z3).1))=prtS (l.take (k+1)):=by
 rw[src_cmd (hc _ (getD_mem hk)),take_cmd2 l k hk,hs]
 unfold prtS sA
 rw[List.map_append,List.map_cons,List.map_nil,joinC_snoc,List.length_map,List.length_take,Nat.min_eq_left (by omega)]
theorem prt_next {l:List Cmd} {k:Nat} {out:List (List UInt8)} (hk:k<l.length) (hs:out=(l.take k).map prtW) {w:List UInt8} (hw:prtW (l.getD k z3)=w):out++[w]=(l.take (k+1)).map prtW:=by
 rw[take_cmd2 l k hk,List.map_append,hs,←hw];rfl
def srcX (l:List Cmd):List UInt8:=if chkS l=0 then prtS l else []
def cmdV (s:List UInt8):Cmd×Bool:=
 if (wordsP s).length=0 then (z3,false)
 else if (wordsP s).getD 0 []=kEnd∧(wordsP s).length=1 then (((wordsP s).getD 0 [],[],0),true)
 else if (wordsP s).getD 0 []=kAct∧(wordsP s).length=2 then (((wordsP s).getD 0 [],(wordsP s).getD 1 [],0),true)
 else if ((wordsP s).getD 0 []=kWait∨(wordsP s).getD 0 []=kRep)∧(wordsP s).length=2 then (((wordsP s).getD 0 [],[],(intV ((wordsP s).getD 1 [])).1),(intV ((wordsP s).getD 1 [])).2)
 else (((wordsP s).getD 0 [],[],0),false)
def badR (s:List UInt8):Bool:=(bif (bif (decide (((List.length (wordsP s):Nat):Int)=0)) then true else (decide ((wordsF (List.getD (wordsP s) 0 []))=0))) then true else (decide (((List.length (wordsP s):Nat):Int)≠(wordsF (List.getD (wordsP s) 0 [])))))
def cmdR (s:List UInt8):Cmd×Bool:=
 if badR s=true then (z3,false)
 else if (wordsP s).getD 0 []=kAct then (((wordsP s).getD 0 [],(wordsP s).getD 1 [],0),true)
 else if (wordsP s).length=2 then (if (intR ((wordsP s).getD 1 [])).isSome=true then (((wordsP s).getD 0 [],[],(intR ((wordsP s).getD 1 [])).getD 0),true) else (z3,false))
 else (((wordsP s).getD 0 [],[],0),true)
theorem cmd_same (s:List UInt8):(cmdV s).2=(cmdR s).2∧((cmdR s).2=true→(cmdV s).1=(cmdR s).1):=by
 have e:badR s=decide ((wordsP s).length=0∨wordsF ((wordsP s).getD 0 [])=0∨(((wordsP s).length:Nat):Int)≠wordsF ((wordsP s).getD 0 [])):=by
  rw[Bool.eq_iff_iff]
  simp only[badR,bif_or,Bool.or_eq_true,decide_eq_true_eq]
  omega
 unfold cmdV cmdR
 rw[e]
 generalize wordsP s=w
 by_cases h0:w.length=0
 ·rw[if_pos h0,if_pos (decide_eq_true (.inl h0))];exact⟨rfl,fun h=>by cases h⟩
 rw[if_neg h0]
 generalize hq:w.getD 0 []=q
 by_cases h1:q=kEnd
 ·subst h1
  have hw:wordsF kEnd=1:=rfl
  by_cases hl:w.length=1
  ·rw[if_pos ⟨rfl,hl⟩,if_neg (by rw[hw];simp[hl]),if_neg (by decide),if_neg (by omega)];exact⟨rfl,fun _=>rfl⟩
  ·rw[if_neg (by rintro⟨_,h⟩;exact hl h),if_neg (by rintro⟨h,_⟩;revert h;decide),if_neg (by rintro⟨h,_⟩;revert h;decide),if_pos (decide_eq_true (.inr (.inr (by rw[hw];omega))))]
   exact⟨rfl,fun h=>by cases h⟩
 rw[if_neg (fun h=>h1 h.1)]
 by_cases h2:q=kAct
 ·subst h2
  have hw:wordsF kAct=2:=rfl
  by_cases hl:w.length=2
  ·rw[if_pos ⟨rfl,hl⟩,if_neg (by rw[hw];simp[hl]),if_pos rfl];exact⟨rfl,fun _=>rfl⟩
  ·rw[if_neg (by rintro⟨_,h⟩;exact hl h),if_neg (by rintro⟨h,_⟩;revert h;decide),if_pos (decide_eq_true (.inr (.inr (by rw[hw];omega))))]
   exact⟨rfl,fun h=>by cases h⟩
 rw[if_neg (fun h=>h2 h.1),if_neg h2]
 by_cases h3:q=kWait∨q=kRep
 ·have hw:wordsF q=2:=by rcases h3 with rfl|rfl<;>rfl
  by_cases hl:w.length=2
  ·rw[if_pos ⟨h3,hl⟩,if_neg (by rw[hw];simp[hl]),if_pos hl]
   obtain⟨k1,k2⟩:=int_same (w.getD 1 [])
   by_cases hs:(intR (w.getD 1 [])).isSome=true
   ·rw[if_pos hs,k1,k2 hs];exact⟨hs,fun _=>rfl⟩
   ·rw[if_neg hs,k1];exact⟨by simpa using hs,fun h=>by cases h⟩
  ·rw[if_neg (fun h=>hl h.2),if_pos (decide_eq_true (.inr (.inr (by rw[hw];omega))))]
   exact⟨rfl,fun h=>by cases h⟩
 ·have hw:wordsF q=0:=by
   unfold wordsF
   rw[if_neg h2,if_neg (fun h=>h3 (.inl h)),if_neg (fun h=>h3 (.inr h)),if_neg h1]
  rw[if_neg (fun h=>h3 h.1),if_pos (decide_eq_true (.inr (.inl hw)))]
  exact⟨rfl,fun h=>by cases h⟩
abbrev Prs:=List Cmd×Int×Int
def parG (f:List UInt8→Cmd×Bool):List (List UInt8)→Nat→List Cmd→Prs
 | [],_,out=>if chkS out≠0 then ([],0,chkS out) else (out,0,0)
 | p::r,i,out=>if (f p).2=false then ([],(i:Int)+1,25) else parG f r (i+1) (out++[(f p).1])
def parScr (f:List UInt8→Cmd×Bool) (s:List UInt8):Prs:=if 4096<s.length then ([],0,26) else if (wordsP s).length=0 then ([],0,0) else parG f (splC 59 s) 0 []
theorem parG_same:∀ (l:List (List UInt8)) (i:Nat) (out:List Cmd),parG cmdV l i out=parG cmdR l i out
 | [],_,_=>rfl
 | p::r,i,out=>by
  obtain⟨h1,h2⟩:=cmd_same p
  simp only[parG]
  cases h:(cmdR p).2
  ·rw[h1,h,if_pos rfl,if_pos rfl]
  ·rw[h1,h,if_neg (by decide),if_neg (by decide),h2 h,parG_same r]
theorem par_same (s:List UInt8):parScr cmdV s=parScr cmdR s:=by
 unfold parScr
 rw[parG_same]
section
variable {f:List UInt8→Cmd×Bool} {l:List (List UInt8)} {k:Nat} {out:List Cmd}
theorem parG_no (hk:k<l.length) (h:(f (l.getD k [])).2=false):parG f (l.drop k) k out=([],(k:Int)+1,25):=by
 rw[drop_at l k [] hk,parG,if_pos h]
theorem parG_go (hk:k<l.length) (h:(f (l.getD k [])).2=true):parG f (l.drop k) k out=parG f (l.drop (k+1)) (k+1) (out++[(f (l.getD k [])).1]):=by
 rw[drop_at l k [] hk,parG,if_neg (by rw[h];decide)]
theorem parG_bad (hk:¬k<l.length) (h:chkS out≠0):parG f (l.drop k) k out=([],0,chkS out):=by
 rw[List.drop_of_length_le (by omega),parG,if_pos h]
theorem parG_end (hk:¬k<l.length) (h:¬chkS out≠0):parG f (l.drop k) k out=(out,0,0):=by
 rw[List.drop_of_length_le (by omega),parG,if_neg h]
end
section
variable {f:List UInt8→Cmd×Bool} {s:List UInt8}
theorem parScr_long (h:4096<((List.length s:Nat):Int)):parScr f s=([],0,26):=by unfold parScr;rw[if_pos (by omega)]
theorem parScr_none (h:¬4096<((List.length s:Nat):Int)) (h1:((List.length (wordsP s):Nat):Int)=0):parScr f s=([],0,0):=by unfold parScr;rw[if_neg (by omega),if_pos (by omega)]
theorem parScr_go (h:¬4096<((List.length s:Nat):Int)) (h1:¬((List.length (wordsP s):Nat):Int)=0):parScr f s=parG f (List.drop 0 (splC 59 s)) 0 []:=by unfold parScr;rw[if_neg (by omega),if_neg (by omega)];rfl
end
section
variable {n m:Int} {s:List UInt8}
abbrev dgs:List UInt8:=[48,49,50,51,52,53,54,55,56,57]
theorem dg10:∀ k:Nat,k<10→List.drop k (List.take (k+1) dgs)=[UInt8.ofNat (48+k)]:=by decide
theorem dg_at (h:0≤m):List.drop (Int.toNat (m%10)) (List.take (Int.toNat ((m%10)+1)) dgs)=[UInt8.ofNat (48+m.toNat%10)]:=by
 rw[show Int.toNat (m%10)=m.toNat%10 by omega,show Int.toNat ((m%10)+1)=m.toNat%10+1 by omega]
 exact dg10 _ (by omega)
def DecI (n m:Int) (s:List UInt8):Prop:=0≤m∧m≤n∧((s=[]∧m=n)∨(s≠[]∧((m=0∧s=Lib.itoa n)∨(0<m∧Lib.itoa m++s=Lib.itoa n))))
theorem decI_0 (h:0≤n):DecI n n []:=⟨h,Int.le_refl _,.inl ⟨rfl,rfl⟩⟩
theorem decI_rng (h:DecI n m s):0≤m∧m≤n:=⟨h.1,h.2.1⟩
theorem decI_len (h:DecI n m s) (h0:0≤n) (h1:n≤999999999):s.length≤9:=by
 have hl:=itoa_len h0 h1
 obtain⟨_,_,⟨e,_⟩|⟨_,⟨_,e⟩|⟨_,e⟩⟩⟩:=h
 ·rw[e];exact Nat.zero_le _
 ·rw[e];exact hl
 ·rw[←e,List.length_append] at hl;omega
theorem itoa_div (h0:0≤m):(m<10→Lib.itoa m=[UInt8.ofNat (48+m.toNat%10)])∧(¬m<10→Lib.itoa m=Lib.itoa (m / 10)++[UInt8.ofNat (48+m.toNat%10)]):=by
 obtain⟨k,rfl⟩:∃ k:Nat,m=(k:Int):=⟨m.toNat,by omega⟩
 rw[show ((k:Int) / 10)=((k / 10:Nat):Int) by omega,itoa_nat,itoa_nat,Int.toNat_natCast]
 constructor
 ·intro h
  rw[dd_small (by omega),show k%10=k by omega]
 ·intro h
  rw[dd_big (by omega)]
theorem decI_next (h:DecI n m s) (hc:(bif (decide (0<m)) then true else (decide (((List.length s:Nat):Int)<1)))=true):DecI n (m / 10) (List.drop (Int.toNat (m%10)) (List.take (Int.toNat ((m%10)+1)) dgs)++s):=by
 obtain⟨h0,h1,h2⟩:=h
 rw[dg_at h0]
 obtain⟨d1,d2⟩:=itoa_div h0
 refine⟨by omega,by omega,.inr ⟨by simp,?_⟩⟩
 rcases h2 with ⟨rfl,rfl⟩|⟨hs,h2⟩
 ·by_cases h10:m<10
  ·exact .inl ⟨by omega,by rw[d1 h10];simp⟩
  ·exact .inr ⟨by omega,by rw[d2 h10];simp⟩
 ·rw[bif_or,Bool.or_eq_true,decide_eq_true_eq,decide_eq_true_eq] at hc
  have hl:0<s.length:=List.length_pos_iff.2 hs
  rcases h2 with ⟨h3,_⟩|⟨h3,h4⟩
  ·omega
  ·by_cases h10:m<10
   ·exact .inl ⟨by omega,by rw[←h4,d1 h10]⟩
   ·exact .inr ⟨by omega,by rw[←h4,d2 h10];simp⟩
theorem decI_less (h:DecI n m s) (hc:(bif (decide (0<m)) then true else (decide (((List.length s:Nat):Int)<1)))=true):Int.toNat (m / 10)+(1-List.length (List.drop (Int.toNat (m%10)) (List.take (Int.toNat ((m%10)+1)) dgs)++s))<Int.toNat m+(1-List.length s):=by
 obtain⟨h0,h1,h2⟩:=h
 rw[dg_at h0,bif_or,Bool.or_eq_true,decide_eq_true_eq,decide_eq_true_eq] at*
 simp only[List.length_append,List.length_cons,List.length_nil]
 omega
theorem decI_end (h:DecI n m s) (hc:(bif (decide (0<m)) then true else (decide (((List.length s:Nat):Int)<1)))=false):s=Lib.itoa n:=by
 rw[bif_or,Bool.or_eq_false_iff,decide_eq_false_iff_not,decide_eq_false_iff_not] at hc
 obtain⟨_,_,⟨e,_⟩|⟨_,⟨_,e⟩|⟨h3,_⟩⟩⟩:=h
 ·rw[e] at hc;simp at hc
 ·exact e
 ·omega
def txtF (l:List Int):List UInt8:=if l.length=0 then [48] else Lib.itoa (l.getD (l.length-1) 0)
theorem txt_0 {l:List Int} (h:((List.length l:Nat):Int)=0):txtF l=[48]:=if_pos (by omega)
theorem txt_1 {l:List Int} (h:¬((List.length l:Nat):Int)=0):txtF l=Lib.itoa (l.getD (l.length-1) 0):=if_neg (by omega)
def wF (n:Int):List Int:=if n=0 then [] else [n]
theorem wF_len (n:Int):(wF n).length≤1:=by unfold wF;split<;>simp
theorem wF_rng (h0:0≤n) (h1:n≤999999999):∀ x∈wF n,0≤x∧x≤999999999:=by
 unfold wF;split
 ·intro x hx;cases hx
 ·intro x hx
  have:x=n:=by simpa using hx
  omega
theorem txt_w (h0:0≤n):txtF (wF n)=Lib.itoa n:=by
 unfold wF;split
 ·rename_i h
  subst h
  have:=itoa_nat 0
  rw[dd_small (by omega)] at this
  exact this.symm
 ·rfl
theorem trim_no {l:List Int} (h:(bif (decide (0<((List.length l:Nat):Int))) then (decide ((List.getD l (List.length l-1) 0)=0)) else false)=true):0<l.length∧(List.getD l (List.length l-1) 0)=0:=by
 rw[bif_and,Bool.and_eq_true,decide_eq_true_eq,decide_eq_true_eq] at h
 exact⟨by omega,h.2⟩
def WhI (n m:Int) (out:List Int):Prop:=(m=n∧out=[])∨(m=0∧out=[n]∧n≠0)
variable {out:List Int}
theorem whI_next (h:WhI n m out) (h0:0≤n) (h1:n≤999999999) (hm:m≠0):WhI n (m / 1000000000) (out++[m%1000000000]):=by
 rcases h with ⟨rfl,rfl⟩|⟨h,_⟩
 ·exact .inr ⟨by omega,by rw[show m%1000000000=m by omega];rfl,hm⟩
 ·exact absurd h hm
theorem whI_rng (h:WhI n m out) (h0:0≤n) (h1:n≤999999999):0≤m∧m≤999999999:=by
 rcases h with ⟨rfl,_⟩|⟨h,_⟩<;>omega
theorem whI_len (h:WhI n m out):out.length≤1:=by
 rcases h with ⟨_,rfl⟩|⟨_,rfl,_⟩<;>simp
theorem whI_end (h:WhI n m out) (hm:m=0):out=wF n:=by
 unfold wF
 rcases h with ⟨h1,h2⟩|⟨_,h2,h3⟩
 ·rw[if_pos (by omega),h2]
 ·rw[if_neg h3,h2]
theorem whI_nz (h:WhI n m out):∀ x∈out,x≠0:=by
 rcases h with ⟨_,rfl⟩|⟨_,rfl,h3⟩
 ·intro x hx;cases hx
 ·intro x hx
  have:x=n:=by simpa using hx
  rw[this];exact h3
theorem intB_next {b q:Int} (h:n<q) (hb:b≤57):10*n+(b-48)<10*q:=by omega
end
theorem splS_len (s:List UInt8):(splS s).length≤s.length+1:=by
 have:=splC_len 32 s
 rwa [splC_32] at this
section
variable {n:Nat} {a b:Bool}
theorem gd_len1 (h:((decide (((n:Nat):Int)=0))==false)=true):0<n:=by
 have:=of_decide_eq_false (eqf h);omega
theorem gd_len2b (h:(bif (decide (((n:Nat):Int)=0)) then true else b)=false):0<n:=by
 rw[bif_or,Bool.or_eq_false_iff,decide_eq_false_iff_not] at h;omega
theorem gd_len2 (h:((bif (decide (((n:Nat):Int)=0)) then true else b)==false)=true):0<n:=gd_len2b (eqf h)
theorem gd_len3 (h:(bif (bif (decide (((n:Nat):Int)=0)) then true else a) then true else b)=false):0<n:=by
 rw[bif_or,Bool.or_eq_false_iff] at h;exact gd_len2b h.1
theorem gd_len4 (h:(a&&((decide (1<((n:Nat):Int)))==true))=true):0<n:=by
 rw[Bool.and_eq_true] at h
 have:=of_decide_eq_true (eqt h.2);omega
end
section
variable {s:List UInt8}
theorem cv_0 (h1:((List.length (wordsP s):Nat):Int)=0):cmdV s=(z3,false):=by unfold cmdV;rw[if_pos (by omega)]
theorem cv_q1 {n:Nat} {p:Prop} [Decidable p] (q:Nat):(bif (decide p) then (decide (((n:Nat):Int)=((q:Nat):Int))) else false)=true↔p∧n=q:=by
 rw[bif_and,Bool.and_eq_true,decide_eq_true_eq,decide_eq_true_eq]
 exact⟨fun h=>⟨h.1,by omega⟩,fun h=>⟨h.1,by omega⟩⟩
theorem cv_q2 {n:Nat} {p q:Prop} [Decidable p] [Decidable q] (k:Nat):(bif (bif (decide p) then true else (decide q)) then (decide (((n:Nat):Int)=((k:Nat):Int))) else false)=true↔(p∨q)∧n=k:=by
 rw[bif_and,bif_or,Bool.and_eq_true,Bool.or_eq_true,decide_eq_true_eq,decide_eq_true_eq,decide_eq_true_eq]
 exact⟨fun h=>⟨h.1,by omega⟩,fun h=>⟨h.1,by omega⟩⟩
theorem b_ne {b:Bool} (h:b=false):¬b=true:=by rw[h];decide
abbrev cE (s:List UInt8):Bool:=(bif (decide ((List.getD (wordsP s) 0 [])=[101,110,100])) then (decide (((List.length (wordsP s):Nat):Int)=1)) else false)
abbrev cA (s:List UInt8):Bool:=(bif (decide ((List.getD (wordsP s) 0 [])=[97,99,116])) then (decide (((List.length (wordsP s):Nat):Int)=2)) else false)
abbrev cI (s:List UInt8):Bool:=(bif (bif (decide ((List.getD (wordsP s) 0 [])=[119,97,105,116])) then true else (decide ((List.getD (wordsP s) 0 [])=[114,101,112,101,97,116]))) then (decide (((List.length (wordsP s):Nat):Int)=2)) else false)
theorem cv_two (h:cI s=true):(wordsP s).length=2:=((cv_q2 2).1 h).2
theorem cv_two2 (h:cA s=true):(wordsP s).length=2:=((cv_q1 2).1 h).2
variable (h1:¬((List.length (wordsP s):Nat):Int)=0)
include h1
theorem cv_E (h2:cE s=true):cmdV s=(((wordsP s).getD 0 [],[],0),true):=by
 unfold cmdV;rw[if_neg (by omega),if_pos ((cv_q1 1).1 h2)]
theorem cv_A (h2:cE s=false) (h3:cA s=true):cmdV s=(((wordsP s).getD 0 [],(wordsP s).getD 1 [],0),true):=by
 unfold cmdV;rw[if_neg (by omega),if_neg (fun h=>b_ne h2 ((cv_q1 1).2 h)),if_pos ((cv_q1 2).1 h3)]
theorem cv_I (h2:cE s=false) (h3:cA s=false) (h4:cI s=true):cmdV s=(((wordsP s).getD 0 [],[],(intV ((wordsP s).getD 1 [])).1),(intV ((wordsP s).getD 1 [])).2):=by
 unfold cmdV;rw[if_neg (by omega),if_neg (fun h=>b_ne h2 ((cv_q1 1).2 h)),if_neg (fun h=>b_ne h3 ((cv_q1 2).2 h)),if_pos ((cv_q2 2).1 h4)]
theorem cv_N (h2:cE s=false) (h3:cA s=false) (h4:cI s=false):cmdV s=(((wordsP s).getD 0 [],[],0),false):=by
 unfold cmdV;rw[if_neg (by omega),if_neg (fun h=>b_ne h2 ((cv_q1 1).2 h)),if_neg (fun h=>b_ne h3 ((cv_q1 2).2 h)),if_neg (fun h=>b_ne h4 ((cv_q2 2).2 h))]
end
section
variable {s:List UInt8}
theorem badR_pos (h:badR s=false):0<(wordsP s).length:=gd_len3 h
theorem badR_len (h:badR s=false):(((wordsP s).length:Nat):Int)=wordsF ((wordsP s).getD 0 []):=by
 unfold badR at h
 rw[bif_or,Bool.or_eq_false_iff,decide_eq_false_iff_not] at h
 exact Decidable.not_not.1 h.2
theorem badR_act (h:badR s=false) (h5:(List.getD (wordsP s) 0 [])=[97,99,116]):(wordsP s).length=2:=by
 have:=badR_len h
 rw[h5] at this
 have e:wordsF [97,99,116]=2:=rfl
 omega
theorem cr_B (h:badR s=true):(cmdR s).2=false:=by unfold cmdR;rw[if_pos h]
theorem cr_A (h:badR s=false) (h5:(List.getD (wordsP s) 0 [])=[97,99,116]):cmdR s=(((wordsP s).getD 0 [],(wordsP s).getD 1 [],0),true):=by
 unfold cmdR;rw[if_neg (b_ne h),if_pos h5]
variable (h:badR s=false) (h5:¬(List.getD (wordsP s) 0 [])=[97,99,116])
include h h5
theorem cr_I (h6:((List.length (wordsP s):Nat):Int)=2) (h7:(!(Option.isSome (intR (List.getD (wordsP s) 1 []))))=true):(cmdR s).2=false:=by
 unfold cmdR;rw[if_neg (b_ne h),if_neg h5,if_pos (by omega),if_neg (b_ne (bnot_t h7))]
theorem cr_V (h6:((List.length (wordsP s):Nat):Int)=2) (h7:(!(Option.isSome (intR (List.getD (wordsP s) 1 []))))=false):cmdR s=(((wordsP s).getD 0 [],[],(intR ((wordsP s).getD 1 [])).getD 0),true):=by
 unfold cmdR;rw[if_neg (b_ne h),if_neg h5,if_pos (by omega),if_pos (bnot_f h7)]
theorem cr_N (h6:¬((List.length (wordsP s):Nat):Int)=2):cmdR s=(((wordsP s).getD 0 [],[],0),true):=by
 unfold cmdR;rw[if_neg (b_ne h),if_neg h5,if_neg (by omega)]
end
theorem parG_at {f:List UInt8→Cmd×Bool} {l:List (List UInt8)} {k:Nat} {out:List Cmd} {c:Cmd} (hk:k<l.length) (h:f (l.getD k [])=(c,true)):parG f (l.drop k) k out=parG f (l.drop (k+1)) (k+1) (out++[c]):=by
 rw[parG_go hk (by rw[h]),h]
theorem int_chk {v:Int} {s:List UInt8}:(bif (bif (bif true then (decide (0≤v)) else false) then (decide (v≤999999999)) else false) then (decide (Lib.itoa v=s)) else false)=decide (0≤v∧v≤999999999∧Lib.itoa v=s):=by
 rw[Bool.eq_iff_iff]
 simp only[bif_and,Bool.and_eq_true,decide_eq_true_eq,true_and,and_assoc]
section
variable [Lz]
theorem w185 (hp:PowLaid) (n:Int) (h:R64 n):CallOk Tryz.prog 185 [vI n] (lookM []) (vS (bsO (Lib.itoa n))) []:=by
 have h1:extO ext 185 0 [vI n] []=some (lit (.string ⟨(itoaF n).toArray⟩),[]):=by
  show (bif in64 n then some (lit (.string ⟨(itoaF n).toArray⟩),[]) else none)=_
  have:in64 n=true:=decide_eq_true h
  rw[this];rfl
 rw[itoaF_eq h.1 (by have:=h.2;omega)] at h1
 exact extO_ok (ext_ok hp) _ _ _ _ _ _ h1
end
end Go.Lens.Tm
end
section
namespace Go.Lens.Tm
open Go.Lens.Tb Go.Proofs
variable [Lz]
set_option linter.unusedSectionVars false
set_option maxHeartbeats 4000000
set_option maxRecDepth 100000
attribute [local irreducible] TK PK T RG EfR Body CG
theorem by115:ty115.info.bytes=40:=by kernel_rfl
theorem fa115_1:fadQ tab 115 1=some 1:=by kernel_rfl
theorem fa116_0:fadQ tab 116 0=some 0:=by kernel_rfl
theorem in115:tab.info? 115=some ty115.info:=by kernel_rfl
theorem sz115:szT tab 115=some 3:=by kernel_rfl
theorem sz116:szT tab 116=some 3:=by kernel_rfl
theorem un82:tab.underlying 82=some (.slice 116):=by kernel_rfl
theorem un83:tab.underlying 83=some (.slice 115):=by kernel_rfl
theorem w136 (c:Cmd):CallOk Tryz.prog 136 [.pv (gC c)] (lookM []) (vI (chkC c)) []:=by
 refine cG qf136 rfl (nB rfl) rfl (E rfl (B.seqB (a:=c.1) (b:=[97,99,116]) rfl rfl) (Cp rfl rfl (fun h1=>?_) (fun h1=>?_)))
 ·exact C rfl (w104 (bsO c.2.1)) rfl rfl rfl (C rfl (w99 c.2.2 0 0) rfl rfl rfl (E rfl (B.runZ (val:=.pv (.slice (List.map eI [(whenF (!(isNameF (bsO c.2.1))) 8),(withinF c.2.2 0 0)]))) rfl (fun l=>Frz.arr l _ _ _ _ _) rfl) (C rfl (w100 [(whenF (!(isNameF (bsO c.2.1))) 8),(withinF c.2.2 0 0)] (nB rfl)) rfl rfl rfl (Dr rfl (by kernel_rfl) (Rt rfl (leaf (val0:=vI (firstF [(whenF (!(isNameF (bsO c.2.1))) 8),(withinF c.2.2 0 0)])) (by kernel_rfl) (li (by (rw[chkC,if_pos h1])))))))))
 ·refine E rfl (B.seqB (a:=c.1) (b:=[101,110,100]) rfl rfl) (Cp rfl rfl (fun h2=>?_) (fun h2=>?_))
  ·exact E rfl (B.sneB (a:=c.2.1) (b:=[]) rfl rfl) (C rfl (w101 (decide (c.2.1≠[])) 1) rfl rfl rfl (C rfl (w99 c.2.2 0 0) rfl rfl rfl (E rfl (B.runZ (val:=.pv (.slice (List.map eI [(whenF (decide (c.2.1≠[])) 1),(withinF c.2.2 0 0)]))) rfl (fun l=>Frz.arr l _ _ _ _ _) rfl) (C rfl (w100 [(whenF (decide (c.2.1≠[])) 1),(withinF c.2.2 0 0)] (nB rfl)) rfl rfl rfl (Dr rfl (by kernel_rfl) (Rt rfl (leaf (val0:=vI (firstF [(whenF (decide (c.2.1≠[])) 1),(withinF c.2.2 0 0)])) (by kernel_rfl) (li (by (rw[chkC,if_neg h1,if_pos h2]))))))))))
  ·refine E rfl (B.seqB (a:=c.1) (b:=[119,97,105,116]) rfl rfl) (Cp rfl rfl (fun h3=>?_) (fun h3=>?_))
   ·exact E rfl (B.sneB (a:=c.2.1) (b:=[]) rfl rfl) (C rfl (w101 (decide (c.2.1≠[])) 1) rfl rfl rfl (C rfl (w99 c.2.2 1 100000) rfl rfl rfl (E rfl (B.runZ (val:=.pv (.slice (List.map eI [(whenF (decide (c.2.1≠[])) 1),(withinF c.2.2 1 100000)]))) rfl (fun l=>Frz.arr l _ _ _ _ _) rfl) (C rfl (w100 [(whenF (decide (c.2.1≠[])) 1),(withinF c.2.2 1 100000)] (nB rfl)) rfl rfl rfl (Dr rfl (by kernel_rfl) (Rt rfl (leaf (val0:=vI (firstF [(whenF (decide (c.2.1≠[])) 1),(withinF c.2.2 1 100000)])) (by kernel_rfl) (li (by (rw[chkC,if_neg h1,if_neg h2,if_pos h3]))))))))))
   ·refine E rfl (B.seqB (a:=c.1) (b:=[114,101,112,101,97,116]) rfl rfl) (Cp rfl rfl (fun h4=>?_) (fun h4=>?_))
    ·exact E rfl (B.sneB (a:=c.2.1) (b:=[]) rfl rfl) (C rfl (w101 (decide (c.2.1≠[])) 1) rfl rfl rfl (C rfl (w99 c.2.2 1 100) rfl rfl rfl (E rfl (B.runZ (val:=.pv (.slice (List.map eI [(whenF (decide (c.2.1≠[])) 1),(withinF c.2.2 1 100)]))) rfl (fun l=>Frz.arr l _ _ _ _ _) rfl) (C rfl (w100 [(whenF (decide (c.2.1≠[])) 1),(withinF c.2.2 1 100)] (nB rfl)) rfl rfl rfl (Dr rfl (by kernel_rfl) (Rt rfl (leaf (val0:=vI (firstF [(whenF (decide (c.2.1≠[])) 1),(withinF c.2.2 1 100)])) (by kernel_rfl) (li (by (rw[chkC,if_neg h1,if_neg h2,if_neg h3,if_pos h4]))))))))))
    ·exact Rt rfl (leaf (val0:=vI 13) (by kernel_rfl) (li (by (rw[chkC,if_neg h1,if_neg h2,if_neg h3,if_neg h4]))))
theorem w134 (o:List UInt8):CallOk Tryz.prog 134 [vS (bsO o)] (lookM []) (vI (wordsF o)) []:=by
 refine cG qf134 rfl (nB rfl) rfl (E rfl (B.seqB (a:=o) (b:=[97,99,116]) rfl rfl) (Cp rfl rfl (fun h1=>?_) (fun h1=>?_)))
 ·refine Cp rfl rfl (fun h2=>?_) (fun h2=>?_)
  ·exact Rt rfl (leaf (val0:=vI 2) (by kernel_rfl) (li (by (rw[wordsF,if_pos (by assumption)]))))
  ·refine E rfl (B.seqB (a:=o) (b:=[101,110,100]) rfl rfl) (Cp rfl rfl (fun h3=>?_) (fun h3=>?_))
   ·exact Rt rfl (leaf (val0:=vI 1) (by kernel_rfl) (li (by (exfalso;contradiction))))
   ·exact Rt rfl (leaf (val0:=vI 0) (by kernel_rfl) (li (by (exfalso;contradiction))))
 ·refine E rfl (B.seqB (a:=o) (b:=[119,97,105,116]) rfl rfl) (Cp rfl rfl (fun h4=>?_) (fun h4=>?_))
  ·refine Cp rfl rfl (fun h5=>?_) (fun h5=>?_)
   ·exact Rt rfl (leaf (val0:=vI 2) (by kernel_rfl) (li (by (rw[wordsF,if_neg (by assumption),if_pos (by assumption)]))))
   ·refine E rfl (B.seqB (a:=o) (b:=[101,110,100]) rfl rfl) (Cp rfl rfl (fun h6=>?_) (fun h6=>?_))
    ·exact Rt rfl (leaf (val0:=vI 1) (by kernel_rfl) (li (by (exfalso;contradiction))))
    ·exact Rt rfl (leaf (val0:=vI 0) (by kernel_rfl) (li (by (exfalso;contradiction))))
  ·refine E rfl (B.seqB (a:=o) (b:=[114,101,112,101,97,116]) rfl rfl) (Cp rfl rfl (fun h7=>?_) (fun h7=>?_))
   ·exact Rt rfl (leaf (val0:=vI 2) (by kernel_rfl) (li (by (rw[wordsF,if_neg (by assumption),if_neg (by assumption),if_pos (by assumption)]))))
   ·refine E rfl (B.seqB (a:=o) (b:=[101,110,100]) rfl rfl) (Cp rfl rfl (fun h8=>?_) (fun h8=>?_))
    ·exact Rt rfl (leaf (val0:=vI 1) (by kernel_rfl) (li (by (rw[wordsF,if_neg (by assumption),if_neg (by assumption),if_neg (by assumption),if_pos (by assumption)]))))
    ·exact Rt rfl (leaf (val0:=vI 0) (by kernel_rfl) (li (by (rw[wordsF,if_neg (by assumption),if_neg (by assumption),if_neg (by assumption),if_neg (by assumption)]))))
theorem w130 (c:Cmd):CallOk Tryz.prog 130 [.pv (gC c)] (lookM []) (vI (chkC c)) []:=by
 refine cG qf130 rfl (nB rfl) rfl (C rfl (w134 c.1) rfl rfl rfl (Cp rfl rfl (fun h1=>?_) (fun h1=>?_)))
 ·exact Rt rfl (leaf (val0:=vI 13) (by kernel_rfl) (li (by (exact (chk_kind h1).symm))))
 ·refine E rfl (B.seqB (a:=c.1) (b:=[97,99,116]) rfl rfl) (Eg rfl rfl (fun hc=>B.fadB rfl fa115_1 rfl) rfl (Eg rfl rfl (fun hc=>B.loadB (ev1_gd rfl hc) rfl rfl ag9 sz9 rfl) rfl (Eg rfl rfl (fun hc=>B.call (w94 (bsO c.2.1)) rfl (ds1 (ev1_gd rfl hc)) rfl) rfl (Eg rfl rfl (fun hc=>B.not (ev1_gd rfl hc)) rfl (E rfl (B.pick rfl rfl rfl (gdB rfl) rfl (pick_and _)) (Cb rfl rfl (fun h2=>?_) (fun h2=>?_)))))))
  ·exact Rt rfl (leaf (val0:=vI 8) (by kernel_rfl) (li (by (exact (chk_name h2).symm))))
  ·refine E rfl (B.sneB (a:=c.1) (b:=[97,99,116]) rfl rfl) (Eg rfl rfl (fun hc=>B.fadB rfl fa115_1 rfl) rfl (Eg rfl rfl (fun hc=>B.loadB (ev1_gd rfl hc) rfl rfl ag9 sz9 rfl) rfl (Eg rfl rfl (fun hc=>B.sneB (a:=c.2.1) (b:=[]) (ev1_gd rfl hc) rfl) rfl (E rfl (B.pick rfl rfl rfl (gdB rfl) rfl (pick_and _)) (Cb rfl rfl (fun h3=>?_) (fun h3=>?_))))))
   ·exact Rt rfl (leaf (val0:=vI 1) (by kernel_rfl) (li (by (exact (chk_form h1 h3).symm))))
   ·refine E rfl (B.seqB (a:=c.1) (b:=[119,97,105,116]) rfl rfl) (Cp rfl rfl (fun h4=>?_) (fun h4=>?_))
    ·refine E rfl (B.seqB (a:=c.1) (b:=[114,101,112,101,97,116]) rfl rfl) (Cp rfl rfl (fun h5=>?_) (fun h5=>?_))
     ·refine C rfl (w93 c.2.2 1 100) rfl rfl rfl (Cb rfl rfl (fun h6=>?_) (fun h6=>?_))
      ·exact Rt rfl (leaf (val0:=vI 3) (by kernel_rfl) (li (by exact absurd (h4.symm.trans (by assumption)) (show ¬kWait=kRep by decide))))
      ·exact Rt rfl (leaf (val0:=vI 0) (by kernel_rfl) (li (by exact absurd (h4.symm.trans (by assumption)) (show ¬kWait=kRep by decide))))
     ·refine C rfl (w93 c.2.2 1 100000) rfl rfl rfl (Cb rfl rfl (fun h7=>?_) (fun h7=>?_))
      ·exact Rt rfl (leaf (val0:=vI 3) (by kernel_rfl) (li (by (rw[chk_rest h1 h2 h3,if_pos (by assumption)];exact (with_out (by assumption)).symm))))
      ·exact Rt rfl (leaf (val0:=vI 0) (by kernel_rfl) (li (by (rw[chk_rest h1 h2 h3,if_pos (by assumption)];exact (with_in (by assumption)).symm))))
    ·refine E rfl (B.seqB (a:=c.1) (b:=[114,101,112,101,97,116]) rfl rfl) (Cp rfl rfl (fun h8=>?_) (fun h8=>?_))
     ·refine C rfl (w93 c.2.2 1 100) rfl rfl rfl (Cb rfl rfl (fun h9=>?_) (fun h9=>?_))
      ·exact Rt rfl (leaf (val0:=vI 3) (by kernel_rfl) (li (by (rw[chk_rest h1 h2 h3,if_neg (by assumption),if_pos (by assumption)];exact (with_out (by assumption)).symm))))
      ·exact Rt rfl (leaf (val0:=vI 0) (by kernel_rfl) (li (by (rw[chk_rest h1 h2 h3,if_neg (by assumption),if_pos (by assumption)];exact (with_in (by assumption)).symm))))
     ·refine C rfl (w93 c.2.2 0 0) rfl rfl rfl (Cb rfl rfl (fun h10=>?_) (fun h10=>?_))
      ·exact Rt rfl (leaf (val0:=vI 3) (by kernel_rfl) (li (by (rw[chk_rest h1 h2 h3,if_neg (by assumption),if_neg (by assumption)];exact (with_out (by assumption)).symm))))
      ·exact Rt rfl (leaf (val0:=vI 0) (by kernel_rfl) (li (by (rw[chk_rest h1 h2 h3,if_neg (by assumption),if_neg (by assumption)];exact (with_in (by assumption)).symm))))
theorem w138 (l:List Cmd) (i:Nat) (hi:i≤l.length) (hl:l.length≤1000000000000):CallOk Tryz.prog 138 [vL eC l,vI i] (lookM []) (vI ((matGo 0 i (List.drop i l):Nat):Int)) []:=by
 refine cG qf138 rfl (nB rfl) rfl (l2 (fun (k:Nat) (d:Int)=>[(0,vL eC l),(5,vI d),(6,vI k)]) (fun _ _=>[]) (fun k d=>k≤l.length∧matGo 0 i (List.drop i l)=matGo d k (List.drop k l)∧ -(k:Int)≤d∧d≤(k:Int)) (fun k _=>l.length-k) i 0 rfl ?_ (sb rfl rfl rfl) ?_)
 · exact⟨hi,rfl,by omega,by omega⟩
 intro k d hI0
 refine E rfl (B.lenL rfl un83) (Cp rfl rfl (fun h1=>?_) (fun h1=>?_))
 ·refine E rfl (B.idx (z:=z3) (i:=k) rfl rfl un83 sz115 (fun _=>rfl) rfl (by omega)) (E rfl (B.seqB (a:=(List.getD l k z3).1) (b:=[114,101,112,101,97,116]) rfl rfl) (Cp rfl rfl (fun h2=>?_) (fun h2=>?_)))
  ·refine E rfl (B.add rfl rfl (by unfold R64;omega)) (E rfl (B.idx (z:=z3) (i:=k) rfl rfl un83 sz115 (fun _=>rfl) rfl (by omega)) (E rfl (B.seqB (a:=(List.getD l k z3).1) (b:=[101,110,100]) rfl rfl) (Cp rfl rfl (fun h3=>?_) (fun h3=>?_))))
   ·refine E rfl (B.sub rfl rfl (by unfold R64;omega)) (Cp rfl rfl (fun h4=>?_) (fun h4=>?_))
    ·exact Rt rfl (leaf (val0:=vI k) (by kernel_rfl) (li (by exact absurd (Eq.trans (Eq.symm h2) h3) rep_end)))
    ·refine E rfl (B.add rfl rfl (by unfold R64;omega)) (pk rfl (L2 (k+1) ((d+1)-1) ?_ ?_ (sb rfl rfl rfl)))
     ·
       refine⟨by omega,hI0.2.1.trans ?_,by omega,by omega⟩;exact absurd (Eq.trans (Eq.symm h2) h3) rep_end
     · omega
   ·refine E rfl (B.add rfl rfl (by unfold R64;omega)) (pk rfl (L2 (k+1) (d+1) ?_ ?_ (sb rfl rfl rfl)))
    ·
      refine⟨by omega,hI0.2.1.trans ?_,by omega,by omega⟩;exact mat_rep (by omega) h2
    · omega
  ·refine E rfl (B.idx (z:=z3) (i:=k) rfl rfl un83 sz115 (fun _=>rfl) rfl (by omega)) (E rfl (B.seqB (a:=(List.getD l k z3).1) (b:=[101,110,100]) rfl rfl) (Cp rfl rfl (fun h5=>?_) (fun h5=>?_)))
   ·refine E rfl (B.sub rfl rfl (by unfold R64;omega)) (Cp rfl rfl (fun h6=>?_) (fun h6=>?_))
    ·exact Rt rfl (leaf (val0:=vI k) (by kernel_rfl) (li (by (rw[hI0.2.1,mat_end (by omega) h5,if_pos h6]))))
    ·refine E rfl (B.add rfl rfl (by unfold R64;omega)) (pk rfl (L2 (k+1) (d-1) ?_ ?_ (sb rfl rfl rfl)))
     ·
       refine⟨by omega,hI0.2.1.trans ?_,by omega,by omega⟩;(rw[mat_end (by omega) h5,if_neg h6])
     · omega
   ·refine E rfl (B.add rfl rfl (by unfold R64;omega)) (pk rfl (L2 (k+1) d ?_ ?_ (sb rfl rfl rfl)))
    ·
      refine⟨by omega,hI0.2.1.trans ?_,by omega,by omega⟩;exact mat_one (by omega) h2 h5
    · omega
 ·exact E rfl (B.lenL rfl un83) (Rt rfl (leaf (val0:=vI l.length) (by kernel_rfl) (li (by (rw[hI0.2.1,mat_nil (by omega)];omega)))))
theorem w61 (l:List Cmd) (d:Nat) (hw:Wf d l) (hc:∀ c∈l,chkC c=0) (hl:l.length≤64) (hd:d≤4)
 (hrec:∀ (b:List Cmd) (d1:Nat),b.length<l.length→Wf d1 b→(∀ c∈b,chkC c=0)→d1≤4→CallOk Tryz.prog 61 [vL eC b] (lookM []) (vI (lenP b)) []):CallOk Tryz.prog 61 [vL eC l] (lookM []) (vI (lenP l)) []:=by
 refine cG qf61 rfl (nB rfl) rfl ?_
 have hsl:=wf_small hw hd hc hl
 refine l2 (fun (i:Nat) (n:Int)=>[(0,vL eC l),(3,vI n),(4,vI i)]) (fun _ _=>[]) (fun i n=>i≤l.length∧Wf d (List.drop i l)∧n+lenP (List.drop i l)=lenP l∧0≤n) (fun i _=>l.length-i) 0 0 rfl ?_ (sb rfl rfl rfl) ?_
 · (exact⟨Nat.zero_le _,hw,by rw[List.drop_zero];omega,by omega⟩)
 intro i n hI0
 have hs0:=wf_small hI0.2.1 hd (fun c h=>hc c (List.mem_of_mem_drop h)) (by rw[List.length_drop];omega)
 refine E rfl (B.lenL rfl un83) (Cp rfl rfl (fun h1=>?_) (fun h1=>?_))
 ·refine E rfl (B.idx (z:=z3) (i:=i) rfl rfl un83 sz115 (fun _=>rfl) rfl (by omega)) (E rfl (B.sneB (a:=(List.getD l i z3).1) (b:=[114,101,112,101,97,116]) rfl rfl) (Cp rfl rfl (fun h2=>?_) (fun h2=>?_)))
  ·refine E rfl (B.add rfl rfl (by unfold R64;omega)) (E rfl (B.add rfl rfl (by unfold R64;omega)) (pk rfl (L2 (i+1) (n+1) ?_ ?_ (sb rfl rfl rfl))))
   ·
     (obtain⟨q1,q2,q3⟩:=wf_next hI0.2.1 (by omega) h2;exact⟨by omega,q2,by omega,by omega⟩)
   · omega
  ·refine C rfl (w138 l i (by omega) (by omega)) rfl rfl rfl ?_
   refine tk 8 rfl ?_
   refine tn ⟨[(0,vL eC l),(3,vI n),(4,vI i),(5,vI ((matGo 0 i (List.drop i l):Nat):Int))],[]⟩ rfl rfl rfl ?_
   obtain⟨d1,e,hde,he,he1,he2,hwb,hwr,hle⟩:=wf_at hI0.2.1 (by omega) (Decidable.not_not.1 h2)
   rw[←he]
   have hcb:∀ c∈List.drop (i+1) (List.take e l),chkC c=0:=fun c h=>hc c (List.mem_of_mem_take (List.mem_of_mem_drop h))
   have hbl:(List.drop (i+1) (List.take e l)).length<l.length:=by rw[List.length_drop,List.length_take];omega
   have hsb:=wf_small hwb (by omega) hcb (by omega)
   have hsr:=wf_small hwr hd (fun c h=>hc c (List.mem_of_mem_drop h)) (by rw[List.length_drop];omega)
   have hcn:=cnt_rep (hc _ (getD_mem (z:=z3) (k:=i) (by omega))) (Decidable.not_not.1 h2)
   have hpn:0≤(List.getD l i z3).2.2*(1+lenP (List.drop (i+1) (List.take e l))):=Int.mul_nonneg (by omega) (by omega)
   refine kc (E rfl (B.idx (z:=z3) (i:=i) rfl rfl un83 sz115 (fun _=>rfl) rfl (by omega)) (E rfl (B.add rfl rfl (by unfold R64;omega)) (E rfl (B.slTD (i:=(i+1)) (j:=e) rfl rfl rfl un83 sz115 (fun _=>rfl) (by omega) rfl (by omega) (by omega)) (C rfl (hrec _ d1 hbl hwb hcb (by omega)) rfl rfl rfl (E rfl (B.add rfl rfl (by unfold R64;omega)) (E rfl (B.mul rfl rfl (by unfold R64;omega)) (E rfl (B.add rfl rfl (by unfold R64;omega)) (Dr rfl (by kernel_rfl) (E rfl (B.add rfl rfl (by unfold R64;omega)) (pk rfl (L2 (e+1) (n+((List.getD l i z3).2.2*(1+(lenP (List.drop (i+1) (List.take e l)))))) ?_ ?_ (sb rfl rfl rfl))))))))))))
   ·
     exact⟨by omega,hwr,by omega,by omega⟩
   · omega
 ·exact Rt rfl (leaf (val0:=vI n) (by kernel_rfl) (li (by have hz:=hI0.2.2.1;rw[List.drop_of_length_le (by omega),lenP_nil] at hz;omega)))
theorem w61r:∀ (n:Nat) (l:List Cmd) (d:Nat),l.length≤n→Wf d l→(∀ c∈l,chkC c=0)→l.length≤64→d≤4→CallOk Tryz.prog 61 [vL eC l] (lookM []) (vI (lenP l)) []
 | 0,l,d,hn,hw,hc,hl,hd=>w61 l d hw hc hl hd fun b d1 hb=>absurd hb (by omega)
 | n+1,l,d,hn,hw,hc,hl,hd=>w61 l d hw hc hl hd fun b d1 hb hw1 hc1 hd1=>w61r n b d1 (by omega) hw1 hc1 (by omega) hd1
theorem w61s {l:List Cmd} (hl:l.length≤64) (hc:∀ c∈l,chkC c=0) (hd:depC 0 l=0):CallOk Tryz.prog 61 [vL eC l] (lookM []) (vI (lenP l)) []:=w61r l.length l 4 (Nat.le_refl _) (wf_of hd) hc hl (by omega)
theorem w137 (l:List Cmd) (hc:∀ c∈l,chkC c=0) (hl:l.length≤64) (hd:depC 0 l=0):CallOk Tryz.prog 137 [vL eC l] (lookM []) (vI (lenP l)) []:=by
 refine cG qf137 rfl (nB rfl) rfl ?_
 have hsl:=wf_small (wf_of hd) (by omega) hc hl
 refine E rfl (B.run rfl) (E rfl (B.adopt 5 1 3 rfl rfl) (E rfl (B.lenL rfl un82) (l5 (fun (k:Nat) (v:Nat) (u:Nat) (s:Int) (st:List (Int×Int))=>[(3,.aref 9 v),(4,.aref 5 u),(9,vL eC l),(10,vI l.length),(11,vI k)]) (fun _ v u s st=>[(5,.arr u 1 3 (List.map eI (cnL st))),(9,.arr v 1 3 (List.map eI (smL st s)))]) (fun k _ _ s st=>k≤l.length∧LnI l k s st) (fun k _ _ _ _=>l.length-k) 0 0 0 0 [] rfl ?_ (sb rfl rfl rfl) ?_)))
 · exact⟨Nat.zero_le _,ln_init hd⟩
 intro k v u s st hI0
 have hle:=ln_le hI0.2 hc
 have hsk:=hI0.2.1.2.2
 have hsl2:=smL_len st s
 have hcl2:=cnL_len st
 refine Cp rfl rfl (fun h1=>?_) (fun h1=>?_)
 ·refine E rfl (B.idx (z:=z3) (i:=k) rfl rfl un82 sz116 (fun _=>rfl) rfl (by omega)) (E rfl (B.lenA rfl rfl un22) (E rfl (B.sub rfl rfl (by unfold R64;omega)) ?_))
  refine tk 7 rfl ?_
  refine tn ⟨[(3,.aref 9 v),(4,.aref 5 u),(6,.bref 7 0),(7,vI (((List.length (smL st s):Nat):Int)-1)),(9,vL eC l),(10,vI l.length),(11,vI k)],[(5,.arr u 1 3 (List.map eI (cnL st))),(7,bC 116 (List.getD l k z3)),(9,.arr v 1 3 (List.map eI (smL st s)))]⟩ rfl rfl rfl ?_
  obtain⟨m,hm⟩:∃ m,m=st.length:=⟨_,rfl⟩
  rw[show (((List.length (smL st s):Nat):Int)-1)=(m:Int) by omega]
  refine kc (E rfl (B.seqB (a:=(List.getD l k z3).1) (b:=[114,101,112,101,97,116]) rfl rfl) (Cp rfl rfl (fun h2=>?_) (fun h2=>?_)))
  ·refine E rfl (B.runZ (val:=.pv (.slice (List.map eI [1]))) rfl (fun l=>Frz.arr l _ _ _ _ _) rfl) (E rfl (B.append rfl rfl rfl un22 in3 rfl (fun _=>rfl) by3 (by (simp only[List.length_set,List.length_append,List.length_cons,List.length_nil];omega))) (E rfl (B.runZ (val:=.pv (.slice (List.map eI [(List.getD l k z3).2.2]))) rfl (fun l=>Frz.arr l _ _ _ _ _) rfl) (E rfl (B.append rfl rfl rfl un22 in3 rfl (fun _=>rfl) by3 (by (simp only[List.length_set,List.length_append,List.length_cons,List.length_nil];omega))) (Dr rfl (by kernel_rfl) (E rfl (B.add rfl rfl (by unfold R64;omega)) (pk rfl (L5 (k+1) (v+1) (u+1) 1 ((s,(List.getD l k z3).2.2)::st) ?_ ?_ (sb rfl rfl rfl))))))))
   ·
     refine⟨by omega,?_⟩;exact ln_rep hI0.2 hc (by omega) h2
   · omega
  ·refine E rfl (B.seqB (a:=(List.getD l k z3).1) (b:=[101,110,100]) rfl rfl) (Cp rfl rfl (fun h3=>?_) (fun h3=>?_))
   ·refine tk 12 rfl ?_
    refine tn ⟨[(3,.aref 9 v),(4,.aref 5 u),(7,vI m),(9,vL eC l),(10,vI l.length),(11,vI k)],[(5,.arr u 1 3 (List.map eI (cnL st))),(9,.arr v 1 3 (List.map eI (smL st s)))]⟩ rfl rfl rfl ?_
    obtain⟨p,st2,rfl⟩:=ln_some hI0.2 (by omega) h3
    have hm2:m=st2.length+1:=hm
    have g1:(List.getD (smL (p::st2) s) (m-1) 0)=Prod.fst p:=by rw[hm2];exact smL_get2 p st2 s
    have g2:(List.getD (cnL (p::st2)) (m-1) 0)=Prod.snd p:=by rw[hm2];exact cnL_get p st2
    have g3:(List.getD (smL (p::st2) s) m 0)=s:=by rw[hm2];exact smL_get (p::st2) s
    have hpop:=ln_pop hI0.2 (by omega) h3
    have hpl:=(ln_le hpop hc).1
    have hp0:=hI0.2.2.2 p (List.mem_cons_self ..)
    have hq1:0≤(List.getD (cnL (p::st2)) (m-1) 0)*(List.getD (smL (p::st2) s) m 0)∧(List.getD (smL (p::st2) s) (m-1) 0)+(List.getD (cnL (p::st2)) (m-1) 0)*(List.getD (smL (p::st2) s) m 0)≤7000000000∧0≤(List.getD (smL (p::st2) s) (m-1) 0):=by
      rw[g1,g2,g3];exact⟨Int.mul_nonneg (by omega) hI0.2.2.1,by omega,hp0.1⟩
    refine kc (E rfl (B.sub rfl rfl (by unfold R64;omega)) (E rfl (B.idxE (n:=(m-1)) rfl rfl rfl un22 sz3 (by omega) (by omega)) (E rfl (B.loadE (n:=(m-1)) (z0:=0) rfl rfl ag3 sz3 (by omega) rfl) (E rfl (B.sub rfl rfl (by unfold R64;omega)) (E rfl (B.idxE (n:=(m-1)) rfl rfl rfl un22 sz3 (by omega) (by omega)) (E rfl (B.loadE (n:=(m-1)) (z0:=0) rfl rfl ag3 sz3 (by omega) rfl) (E rfl (B.idxE (n:=m) rfl rfl rfl un22 sz3 rfl (by omega)) (E rfl (B.loadE (n:=m) (z0:=0) rfl rfl ag3 sz3 (by omega) rfl) (E rfl (B.mul rfl rfl (by unfold R64;omega)) (E rfl (B.add rfl rfl (by unfold R64;omega)) (E rfl (B.idxE (n:=(m-1)) rfl rfl rfl un22 sz3 (by omega) (by omega)) (E rfl (B.setE (z0:=((List.getD (smL (p::st2) s) (m-1) 0)+((List.getD (cnL (p::st2)) (m-1) 0)*(List.getD (smL (p::st2) s) m 0)))) rfl rfl rfl rfl rfl sz3 (by omega) (fun _=>rfl)) (Dr rfl (by kernel_rfl) ?_)))))))))))))
    refine E rfl (B.slA (n:=m) rfl rfl rfl un22 sz3 rfl (by (simp only[List.length_set,List.length_append,List.length_cons,List.length_nil];omega))) (E rfl (B.sub rfl rfl (by unfold R64;omega)) (E rfl (B.slA (n:=(m-1)) rfl rfl rfl un22 sz3 (by omega) (by omega)) (Dr rfl (by kernel_rfl) ?_)))
    refine tk 14 rfl ?_
    refine tn ⟨[(3,.atrunc 9 v m),(4,.atrunc 5 u (m-1)),(9,vL eC l),(10,vI l.length),(11,vI k)],[(5,.arr u 1 3 (List.map eI (cnL (p::st2)))),(9,.arr v 1 3 (List.map eI (List.set (smL (p::st2) s) (m-1) ((List.getD (smL (p::st2) s) (m-1) 0)+((List.getD (cnL (p::st2)) (m-1) 0)*(List.getD (smL (p::st2) s) m 0))))))]⟩ rfl rfl rfl ?_
    refine TK.trunc (t:=3) rfl rfl ?_
    refine TK.norm ⟨[(3,.aref 9 (v+1)),(4,.atrunc 5 u (m-1)),(9,vL eC l),(10,vI l.length),(11,vI k)],[(5,.arr u 1 3 (List.map eI (cnL (p::st2)))),(9,.arr (v+1) 1 3 (List.map eI (List.take m (List.set (smL (p::st2) s) (m-1) ((List.getD (smL (p::st2) s) (m-1) 0)+((List.getD (cnL (p::st2)) (m-1) 0)*(List.getD (smL (p::st2) s) m 0)))))))]⟩ (sb rfl rfl rfl) ?_
    refine TK.trunc (t:=4) rfl rfl ?_
    refine TK.norm ⟨[(3,.aref 9 (v+1)),(4,.aref 5 (u+1)),(9,vL eC l),(10,vI l.length),(11,vI k)],[(5,.arr (u+1) 1 3 (List.map eI (List.take (m-1) (cnL (p::st2))))),(9,.arr (v+1) 1 3 (List.map eI (List.take m (List.set (smL (p::st2) s) (m-1) ((List.getD (smL (p::st2) s) (m-1) 0)+((List.getD (cnL (p::st2)) (m-1) 0)*(List.getD (smL (p::st2) s) m 0)))))))]⟩ (sb rfl rfl rfl) ?_
    have e1:(List.take m (List.set (smL (p::st2) s) (m-1) ((List.getD (smL (p::st2) s) (m-1) 0)+((List.getD (cnL (p::st2)) (m-1) 0)*(List.getD (smL (p::st2) s) m 0)))))=smL st2 (Prod.fst p+Prod.snd p*s):=by rw[g1,g2,g3,hm2];exact smL_pop p st2 s _
    have e2:(List.take (m-1) (cnL (p::st2)))=cnL st2:=by rw[hm2];exact cnL_pop p st2
    rw[e1,e2]
    refine kc (E rfl (B.add rfl rfl (by unfold R64;omega)) (pk rfl (L5 (k+1) (v+1) (u+1) (Prod.fst p+Prod.snd p*s) st2 ?_ ?_ (sb rfl rfl rfl))))
    ·
      refine⟨by omega,?_⟩;exact hpop
    · omega
   ·have g4:List.getD (smL st s) m 0=s:=by rw[hm];exact smL_get st s
    have hsn:=hI0.2.2.1
    refine E rfl (B.idxE (n:=m) rfl rfl rfl un22 sz3 rfl (by omega)) (E rfl (B.loadE (n:=m) (z0:=0) rfl rfl ag3 sz3 (by omega) rfl) (E rfl (B.add rfl rfl (by unfold R64;omega)) (E rfl (B.idxE (n:=m) rfl rfl rfl un22 sz3 rfl (by omega)) (E rfl (B.setE (z0:=((List.getD (smL st s) m 0)+1)) rfl rfl rfl rfl rfl sz3 (by omega) (fun _=>rfl)) ?_))))
    refine tk 14 rfl ?_
    refine tn ⟨[(3,.aref 9 v),(4,.aref 5 u),(9,vL eC l),(10,vI l.length),(11,vI k)],[(5,.arr u 1 3 (List.map eI (cnL st))),(9,.arr v 1 3 (List.map eI (List.set (smL st s) m ((List.getD (smL st s) m 0)+1))))]⟩ rfl rfl rfl ?_
    have e1:(List.set (smL st s) m ((List.getD (smL st s) m 0)+1))=smL st (s+1):=by rw[g4,hm];exact smL_set st s _
    rw[e1]
    refine kc (E rfl (B.add rfl rfl (by unfold R64;omega)) (pk rfl (L5 (k+1) v u (s+1) st ?_ ?_ (sb rfl rfl rfl))))
    ·
      refine⟨by omega,?_⟩;exact ln_one hI0.2 (by omega) h2 h3
    · omega
 ·exact E rfl (B.idxE (n:=0) rfl rfl rfl un22 sz3 rfl (by omega)) (E rfl (B.loadE (n:=0) (z0:=0) rfl rfl ag3 sz3 (by omega) rfl) (Rt rfl (leaf (val0:=vI (List.getD (smL st s) 0 0)) (by kernel_rfl) (li (by exact ln_end hI0.2 (by omega))))))
theorem w59 (l:List Cmd) (hl:l.length≤1000000000000000):CallOk Tryz.prog 59 [vL eC l] (lookM []) (vI (chkS l)) []:=by
 refine cG qf59 rfl (nB rfl) rfl (E rfl (B.lenL rfl un82) (Cp rfl rfl (fun h1=>?_) (fun h1=>?_)))
 ·exact Rt rfl (leaf (val0:=vI 5) (by kernel_rfl) (li (by (exact (chkS_many h1).symm))))
 ·refine E rfl (B.lenL rfl un82) (l1 (fun (k:Nat)=>[(0,vL eC l),(12,vL eC l),(13,vI l.length),(14,vI k)]) (fun _=>[]) (fun k=>k≤l.length∧badC l=badC (List.drop k l)) (fun k=>l.length-k) 0 rfl ?_ (sb rfl rfl rfl) ?_)
  · exact⟨Nat.zero_le _,rfl⟩
  intro k hI0
  refine Cp rfl rfl (fun h2=>?_) (fun h2=>?_)
  ·refine E rfl (B.idx (z:=z3) (i:=k) rfl rfl un82 sz116 (fun _=>rfl) rfl (by omega)) (C rfl (w136 (List.getD l k z3)) rfl rfl rfl (Cp rfl rfl (fun h3=>?_) (fun h3=>?_)))
   ·exact Rt rfl (leaf (val0:=vI (chkC (List.getD l k z3))) (by kernel_rfl) (li (by (exact (chkS_bad h1 (hI0.2.trans (badC_no (by omega) h3)) h3).symm))))
   ·refine E rfl (B.add rfl rfl (by unfold R64;omega)) (pk rfl (L1 (k+1) ?_ ?_ (sb rfl rfl rfl)))
    · exact⟨by omega,hI0.2.trans (badC_ok (by omega) (Decidable.not_not.1 h3))⟩
    · omega
  ·have hb0:badC l=0:=hI0.2.trans (bad_end (by omega))
   have hc:=badC_all hb0
   refine E rfl (B.lenL rfl un82) (l2 (fun (k:Nat) (d:Nat)=>[(0,vL eC l),(6,vI d),(24,vL eC l),(25,vI l.length),(26,vI k)]) (fun _ _=>[]) (fun k d=>k≤l.length∧d≤4∧depC 0 l=depC d (List.drop k l)) (fun k _=>l.length-k) 0 0 rfl ?_ (sb rfl rfl rfl) ?_)
   · exact⟨Nat.zero_le _,by omega,rfl⟩
   intro k d hI1
   refine Cp rfl rfl (fun h4=>?_) (fun h4=>?_)
   ·refine E rfl (B.idx (z:=z3) (i:=k) rfl rfl un82 sz116 (fun _=>rfl) rfl (by omega)) (E rfl (B.seqB (a:=(List.getD l k z3).1) (b:=[114,101,112,101,97,116]) rfl rfl) (Cp rfl rfl (fun h5=>?_) (fun h5=>?_)))
    ·refine Cp rfl rfl (fun h6=>?_) (fun h6=>?_)
     ·exact Rt rfl (leaf (val0:=vI 22) (by kernel_rfl) (li (by (exact (chkS_dep h1 hb0 (hI1.2.2.trans ((dep_rep (by omega) (by assumption)).trans (if_pos (by omega)))) (by decide)).symm))))
     ·refine E rfl (B.add rfl rfl (by unfold R64;omega)) (E rfl (B.add rfl rfl (by unfold R64;omega)) (pk rfl (L2 (k+1) (d+1) ?_ ?_ (sb rfl rfl rfl))))
      ·
        exact⟨by omega,by omega,hI1.2.2.trans ((dep_rep (by omega) (by assumption)).trans (if_neg (by omega)))⟩
      · omega
    ·refine E rfl (B.seqB (a:=(List.getD l k z3).1) (b:=[101,110,100]) rfl rfl) (Cp rfl rfl (fun h7=>?_) (fun h7=>?_))
     ·refine Cp rfl rfl (fun h8=>?_) (fun h8=>?_)
      ·exact Rt rfl (leaf (val0:=vI 2) (by kernel_rfl) (li (by (exact (chkS_dep h1 hb0 (hI1.2.2.trans ((dep_end (by omega) (by assumption)).trans (if_pos (by omega)))) (by decide)).symm))))
      ·refine E rfl (B.sub rfl rfl (by unfold R64;omega)) ?_
       refine tk 23 rfl ?_
       refine tn ⟨[(0,vL eC l),(6,vI ((d:Int)-1)),(24,vL eC l),(25,vI l.length),(26,vI k)],[]⟩ rfl rfl rfl ?_
       rw[show (d:Int)-1=(((d-1):Nat):Int) by omega]
       refine kc (E rfl (B.add rfl rfl (by unfold R64;omega)) (pk rfl (L2 (k+1) (d-1) ?_ ?_ (sb rfl rfl rfl))))
       ·
         exact⟨by omega,by omega,hI1.2.2.trans ((dep_end (by omega) (by assumption)).trans (if_neg (by omega)))⟩
       · omega
     ·refine E rfl (B.add rfl rfl (by unfold R64;omega)) (pk rfl (L2 (k+1) d ?_ ?_ (sb rfl rfl rfl)))
      ·
        exact⟨by omega,by omega,hI1.2.2.trans (dep_one (by omega) (by assumption) (by assumption))⟩
      · omega
   ·have hd0:depC 0 l=if 0<d then 2 else 0:=hI1.2.2.trans (dep_nil (by omega))
    refine Cp rfl rfl (fun h9=>?_) (fun h9=>?_)
    ·exact Rt rfl (leaf (val0:=vI 2) (by kernel_rfl) (li (by (exact (chkS_dep h1 hb0 (hd0.trans (if_pos (by omega))) (by decide)).symm))))
    ·have hd:depC 0 l=0:=hd0.trans (if_neg (by omega))
     exact C rfl (w137 l hc (by omega) hd) rfl rfl rfl (C rfl (w101 (decide (10000<(lenP l))) 22) rfl rfl rfl (Rt rfl (leaf (val0:=vI (whenF (decide (10000<(lenP l))) 22)) (by kernel_rfl) (li (by (exact (chkS_len h1 hb0 hd).symm))))))
theorem w56 (l:List Cmd) (hl:l.length≤1000000000000000):CallOk Tryz.prog 56 [vL eC l] (lookM []) (vI (chkS l)) []:=by
 refine cG qf56 rfl (nB rfl) rfl (E rfl (B.lenL rfl un83) (Cp rfl rfl (fun h1=>?_) (fun h1=>?_)))
 ·exact Rt rfl (leaf (val0:=vI 5) (by kernel_rfl) (li (by (exact (chkS_many h1).symm))))
 ·refine l1 (fun (k:Nat)=>[(0,vL eC l),(3,vI k)]) (fun _=>[]) (fun k=>k≤l.length∧badC l=badC (List.drop k l)) (fun k=>l.length-k) 0 rfl ?_ (sb rfl rfl rfl) ?_
  · exact⟨Nat.zero_le _,rfl⟩
  intro k hI0
  refine E rfl (B.lenL rfl un83) (Cp rfl rfl (fun h2=>?_) (fun h2=>?_))
  ·refine E rfl (B.idx (z:=z3) (i:=k) rfl rfl un83 sz115 (fun _=>rfl) rfl (by omega)) (C rfl (w130 (List.getD l k z3)) rfl rfl rfl (Cp rfl rfl (fun h3=>?_) (fun h3=>?_)))
   ·exact Rt rfl (leaf (val0:=vI (chkC (List.getD l k z3))) (by kernel_rfl) (li (by (exact (chkS_bad h1 (hI0.2.trans (badC_no (by omega) h3)) h3).symm))))
   ·refine E rfl (B.add rfl rfl (by unfold R64;omega)) (pk rfl (L1 (k+1) ?_ ?_ (sb rfl rfl rfl)))
    · exact⟨by omega,hI0.2.trans (badC_ok (by omega) (Decidable.not_not.1 h3))⟩
    · omega
  ·have hb0:badC l=0:=hI0.2.trans (bad_end (by omega))
   have hc:=badC_all hb0
   refine l2 (fun (k:Nat) (d:Nat)=>[(0,vL eC l),(5,vI d),(6,vI k)]) (fun _ _=>[]) (fun k d=>k≤l.length∧d≤4∧depC 0 l=depC d (List.drop k l)) (fun k _=>l.length-k) 0 0 rfl ?_ (sb rfl rfl rfl) ?_
   · exact⟨Nat.zero_le _,by omega,rfl⟩
   intro k d hI1
   refine E rfl (B.lenL rfl un83) (Cp rfl rfl (fun h4=>?_) (fun h4=>?_))
   ·refine E rfl (B.idx (z:=z3) (i:=k) rfl rfl un83 sz115 (fun _=>rfl) rfl (by omega)) (E rfl (B.seqB (a:=(List.getD l k z3).1) (b:=[101,110,100]) rfl rfl) (Cp rfl rfl (fun h5=>?_) (fun h5=>?_)))
    ·refine Cp rfl rfl (fun h6=>?_) (fun h6=>?_)
     ·exact Rt rfl (leaf (val0:=vI 2) (by kernel_rfl) (li (by (exact (chkS_dep h1 hb0 (hI1.2.2.trans ((dep_end (by omega) (by assumption)).trans (if_pos (by omega)))) (by decide)).symm))))
     ·refine E rfl (B.sub rfl rfl (by unfold R64;omega)) ?_
      refine tk 17 rfl ?_
      refine tn ⟨[(0,vL eC l),(5,vI ((d:Int)-1)),(6,vI k)],[]⟩ rfl rfl rfl ?_
      rw[show (d:Int)-1=(((d-1):Nat):Int) by omega]
      refine kc (E rfl (B.idx (z:=z3) (i:=k) rfl rfl un83 sz115 (fun _=>rfl) rfl (by omega)) (E rfl (B.seqB (a:=(List.getD l k z3).1) (b:=[114,101,112,101,97,116]) rfl rfl) (Cp rfl rfl (fun h7=>?_) (fun h7=>?_))))
      ·refine Cp rfl rfl (fun h8=>?_) (fun h8=>?_)
       ·exact Rt rfl (leaf (val0:=vI 22) (by kernel_rfl) (li (by (exact (chkS_dep h1 hb0 (hI1.2.2.trans ((dep_rep (by omega) (by assumption)).trans (if_pos (by omega)))) (by decide)).symm))))
       ·refine E rfl (B.add rfl rfl (by unfold R64;omega)) (E rfl (B.add rfl rfl (by unfold R64;omega)) (pk rfl (L2 (k+1) ((d-1)+1) ?_ ?_ (sb rfl rfl rfl))))
        ·
          exact absurd (Eq.trans (Eq.symm (by assumption)) (by assumption)) rep_end
        · omega
      ·refine E rfl (B.add rfl rfl (by unfold R64;omega)) (pk rfl (L2 (k+1) (d-1) ?_ ?_ (sb rfl rfl rfl)))
       ·
         exact⟨by omega,by omega,hI1.2.2.trans ((dep_end (by omega) (by assumption)).trans (if_neg (by omega)))⟩
       · omega
    ·refine E rfl (B.idx (z:=z3) (i:=k) rfl rfl un83 sz115 (fun _=>rfl) rfl (by omega)) (E rfl (B.seqB (a:=(List.getD l k z3).1) (b:=[114,101,112,101,97,116]) rfl rfl) (Cp rfl rfl (fun h9=>?_) (fun h9=>?_)))
     ·refine Cp rfl rfl (fun h10=>?_) (fun h10=>?_)
      ·exact Rt rfl (leaf (val0:=vI 22) (by kernel_rfl) (li (by (exact (chkS_dep h1 hb0 (hI1.2.2.trans ((dep_rep (by omega) (by assumption)).trans (if_pos (by omega)))) (by decide)).symm))))
      ·refine E rfl (B.add rfl rfl (by unfold R64;omega)) (E rfl (B.add rfl rfl (by unfold R64;omega)) (pk rfl (L2 (k+1) (d+1) ?_ ?_ (sb rfl rfl rfl))))
       ·
         exact⟨by omega,by omega,hI1.2.2.trans ((dep_rep (by omega) (by assumption)).trans (if_neg (by omega)))⟩
       · omega
     ·refine E rfl (B.add rfl rfl (by unfold R64;omega)) (pk rfl (L2 (k+1) d ?_ ?_ (sb rfl rfl rfl)))
      ·
        exact⟨by omega,by omega,hI1.2.2.trans (dep_one (by omega) (by assumption) (by assumption))⟩
      · omega
   ·have hd0:depC 0 l=if 0<d then 2 else 0:=hI1.2.2.trans (dep_nil (by omega))
    refine Cp rfl rfl (fun h11=>?_) (fun h11=>?_)
    ·exact Rt rfl (leaf (val0:=vI 2) (by kernel_rfl) (li (by (exact (chkS_dep h1 hb0 (hd0.trans (if_pos (by omega))) (by decide)).symm))))
    ·have hd:depC 0 l=0:=hd0.trans (if_neg (by omega))
     refine C rfl (w61s (by omega) hc hd) rfl rfl rfl (Cp rfl rfl (fun h12=>?_) (fun h12=>?_))
     ·exact Rt rfl (leaf (val0:=vI 22) (by kernel_rfl) (li (by (rw[chkS_len h1 hb0 hd,whenF,decide_eq_true (by assumption)];rfl))))
     ·exact Rt rfl (leaf (val0:=vI 0) (by kernel_rfl) (li (by (rw[chkS_len h1 hb0 hd,whenF,decide_eq_false (by assumption)];rfl))))
end Go.Lens.Tm
end
section
namespace Go.Proofs
open Go.Shelf
def Tryz.lays156_ren:Go.Shelf.Ren:=⟨fun|156=>169|165=>242|166=>157|169=>158|240=>218|241=>284|276=>281|277=>308|n=>n,fun|31=>73|9=>9|3=>3|4=>4|0=>0|20=>20|72=>271|76=>274|70=>269|37=>150|75=>273|127=>333|164=>371|5=>5|80=>145|n=>n,fun|n=>n⟩
theorem Tryz.lays156:Go.Proofs.Lays.n156 Tryz.prog Tryz.lays156_ren:={
  mixed:=by kernel_rfl
  f156:=Tryz.func169.trans (congrArg some (by kernel_rfl))
  f165:=Tryz.func242.trans (congrArg some (by kernel_rfl))
  f166:=Tryz.func157.trans (congrArg some (by kernel_rfl))
  f169:=Tryz.func158.trans (congrArg some (by kernel_rfl))
  f240:=Tryz.func218.trans (congrArg some (by kernel_rfl))
  f241:=Tryz.func284.trans (congrArg some (by kernel_rfl))
  f276:=Tryz.func281.trans (congrArg some (by kernel_rfl))
  f277:=Tryz.func308.trans (congrArg some (by kernel_rfl))
  t0:=Tryz.underlying0
  a0:=Tryz.isAgg0
  z0:=Tryz.sizeOf0
  v0:=Tryz.zeroValue0
  t3:=Tryz.underlying3
  a3:=Tryz.isAgg3
  z3:=Tryz.sizeOf3
  v3:=Tryz.zeroValue3
  t4:=Tryz.underlying4
  a4:=Tryz.isAgg4
  z4:=Tryz.sizeOf4
  v4:=Tryz.zeroValue4
  t9:=Tryz.underlying9
  a9:=Tryz.isAgg9
  z9:=Tryz.sizeOf9
  v9:=Tryz.zeroValue9
  t20:=Tryz.underlying20
  a20:=Tryz.isAgg20
  z20:=Tryz.sizeOf20
  v20:=Tryz.zeroValue20
  t31:=Tryz.underlying73
  a31:=Tryz.isAgg73
  z31:=Tryz.sizeOf73
  v31:=Tryz.zeroValue73
  t37:=Tryz.underlying150
  a37:=Tryz.isAgg150
  z37:=Tryz.sizeOf150
  v37:=Tryz.zeroValue150
  t70:=Tryz.underlying269
  a70:=Tryz.isAgg269
  z70:=Tryz.sizeOf269
  v70:=Tryz.zeroValue269
  t72:=Tryz.underlying271
  a72:=Tryz.isAgg271
  z72:=Tryz.sizeOf271
  v72:=Tryz.zeroValue271
  t75:=Tryz.underlying273
  a75:=Tryz.isAgg273
  z75:=Tryz.sizeOf273
  v75:=Tryz.zeroValue273
  t76:=Tryz.underlying274
  a76:=Tryz.isAgg274
  z76:=Tryz.sizeOf274
  v76:=Tryz.zeroValue274
  t127:=Tryz.underlying333
  a127:=Tryz.isAgg333
  z127:=Tryz.sizeOf333
  v127:=Tryz.zeroValue333
  t164:=Tryz.underlying371
  a164:=Tryz.isAgg371
  z164:=Tryz.sizeOf371
  v164:=Tryz.zeroValue371 }
theorem Tryz.Builder_Extra_156:Builder.Extra Tryz.prog Tryz.lays156_ren:={
  sizeBuilder:=by kernel_rfl
  liesBuilder:=by kernel_rfl
  t5:=Tryz.underlying5
  a5:=Tryz.isAgg5
  z5:=Tryz.sizeOf5
  v5:=Tryz.zeroValue5
  infoByte:=by kernel_rfl
  cellsByte:=by kernel_rfl
  sizeByte:=by kernel_rfl
  neB5:=by decide }
open Go.RowKit in
theorem Tryz.strings_Join_none (a:Option Addr) (c:Nat) (sep:ByteArray) (w:World) :
    Calls Tryz.prog 169 #[.slice a 0 c,.string sep] w fun e w'=>e=.returned (.string ⟨#[]⟩)∧w'=w:=Any.strings_Join_none Tryz.lays156 Tryz.Builder_Extra_156 a c sep w
open Go.RowKit in
theorem Tryz.strings_Join (bk o c:Nat) (xs:List ByteArray) (sep:ByteArray) (w:World) (hcells:∀ (j:Nat) x,xs[j]? =some x→w.cell? ⟨bk,o+j,none⟩=some (.string x)) (hbk:bk<w.heap.size) (hN:xs.length≤140737488355328) (hcap:xs.length≤c) (hlen:(Lib.join (xs.map (·.data.toList)) sep.data.toList).length≤140737488355328) :
    Calls Tryz.prog 169 #[.slice (some ⟨bk,o,none⟩) xs.length c,.string sep] w fun e w'=>e=.returned (.string ⟨(Lib.join (xs.map (·.data.toList)) sep.data.toList).toArray⟩)∧Below w.heap.size w w':=Any.strings_Join Tryz.lays156 Tryz.Builder_Extra_156 bk o c xs sep w hcells hbk hN hcap hlen
end Go.Proofs
end
