/- A part of the proof of PupilFieldsCardSaid, without conditions. -/
import Derived.Test.YtpfnmbpfhlllaaaGreatDoorP2
import Derived.RangeFuncIn
import Derived.Laws.Externs
import Derived.Lib.Atoi
import Derived.Lib.ItoaNum
import Derived.Lib.Mul64
set_option linter.unusedVariables false
set_option linter.unusedSimpArgs false
set_option linter.unusedSectionVars false
set_option maxRecDepth 100000
set_option maxHeartbeats 4000000
open Int (toNat)
open List (replicate drop)
open Nat (gcd)
open Go.Proofs.Tryz (prog)
open Go.Lib (decDigits)
section
namespace Go.Lens
variable [Lz]
theorem bsO_size (a:Nb):(bsO a).size=a.length:=rfl
theorem bsO_toList (a:Nb):(bsO a).toList=a:=by rw[ByteArray.toList_eq];rfl
theorem bsO_append (a b:Nb):bsO a++bsO b=bsO (a++b):=by
 apply Kg
 apply Array.toList_inj.1
 simp[bsO]
theorem bsO_extract (a:Nb) (i j:Nat):(bsO a).extract i j=bsO ((a.take j).drop i):=by
 apply Kg
 grind [bsO,ByteArray.data_extract,List.drop_take]
theorem byteAt_bsO (a:Nb) (i:Nat):byteAt (bsO a) i=((a.getD i 0).toNat:Int):=rfl
section
variable {P:Program} {Y:Tab} [qH P Y] {nb:Nat} {s:St} {dst:Option Tmp} {ty u:TypeId} {pos:String} {af:Array Edge} {gd:Option (Nat×Bool)} {t:TypeId} {x y z:Operand} {a b:Nb}
theorem B.catB (hx:ev1 s x=lit (.string (bsO a))) (hy:ev1 s y=lit (.string (bsO b))) (h:a.length+b.length<=9223372036854775807):Body P Y nb s ⟨dst,.binOp .add t x y u,ty,pos,af,gd⟩ (lit (.string (bsO (a++b)))) [] []:=by
 refine B.bin hx hy ?_
 show qE (some (decide ((bsO a).size+(bsO b).size<=9223372036854775807),lit (.string (bsO a++bsO b))))=_
 have:decide ((bsO a).size+(bsO b).size<=9223372036854775807)=true:=zl h
 rw[this,bsO_append];rfl
theorem B.seqB (hx:ev1 s x=lit (.string (bsO a))) (hy:ev1 s y=lit (.string (bsO b))):Body P Y nb s ⟨dst,.binOp .eql t x y u,ty,pos,af,gd⟩ (lit (.bool (decide (a=b)))) [] []:=by
 have:=B.seql (P:=P) (Y:=Y) (nb:=nb) (s:=s) (dst:=dst) (ty:=ty) (u:=u) (pos:=pos) (af:=af) (gd:=gd) (t:=t) hx hy
 rwa [show decide (bsO a=bsO b)=decide (a=b) by rw[zL];simp[bsO_inj]] at this
theorem B.sneB (hx:ev1 s x=lit (.string (bsO a))) (hy:ev1 s y=lit (.string (bsO b))):Body P Y nb s ⟨dst,.binOp .neq t x y u,ty,pos,af,gd⟩ (lit (.bool (decide (a≠b)))) [] []:=by
 have:=B.sneq (P:=P) (Y:=Y) (nb:=nb) (s:=s) (dst:=dst) (ty:=ty) (u:=u) (pos:=pos) (af:=af) (gd:=gd) (t:=t) hx hy
 rwa [show decide (bsO a≠bsO b)=decide (a≠b) by rw[zL];simp[bsO_inj]] at this
theorem B.bqB {p q:Bool} (hx:ev1 s x=lit (.bool p)) (hy:ev1 s y=lit (.bool q)) (und:Y.underlying t=some .bool):Body P Y nb s ⟨dst,.binOp .eql t x y u,ty,pos,af,gd⟩ (lit (.bool (p==q))) [] []:=by
 refine B.bin hx hy ?_
 have h3:binQ Y .eql t (lit (.bool p)) (lit (.bool q))=some (true,lit (.bool (p==q))):=by simp only[binQ,lit,und]
 show qE (binW Y .eql t (qr []) (Z2 y) (lit (.bool p)) (lit (.bool q)))=_
 have h4:binW Y .eql t (qr []) (Z2 y) (lit (.bool p)) (lit (.bool q))=some (true,lit (.bool (p==q))):=by
  unfold binW
  simp only[lit] at h3 ⊢
  simp only[nilQ,nilKind,samePQ,h3]
 rw[h4];rfl
theorem B.ZM {at':TypeId} (hx:ev1 s x=lit (.string (bsO a))) (hu:Y.underlying at'=some .string):Body P Y nb s ⟨dst,.call ⟨.builtin .len,⟨[x]⟩,⟨[at']⟩⟩,ty,pos,af,gd⟩ (lit (.int .i64 (a.length:Int))) [] []:=B.lenS hx hu
theorem B.slHB {hi:Operand} {k:IntKind} {n:Int} {j:Nat} (hx:ev1 s x=lit (.string (bsO a))) (hy:ev1 s hi=lit (.int k n)) (hu:Y.underlying t=some .string) (hn:n=(j:Int)) (hj:j<=a.length) :
 Body P Y nb s ⟨dst,.slice t x none (some hi) none,ty,pos,af,gd⟩ (lit (.string (bsO (a.take j)))) [] []:=by
 refine B.pure (lo:=0) (nm:=0) (kn P) ?_ ?_
 ·intro z hz
  have:z=x\/z=hi:=by simpa [Op.operands] using hz
  rcases this with rfl|rfl
  ·rw[hx];rfl
  rw[hy];rfl
 have e1:evU (tmpsOf [x,hi]) s x=_:=(qR ao).trans hx
 have e2:evU (tmpsOf [x,hi]) s hi=_:=(qR ao).trans hy
 have hv:effV Y 0 dst (.slice t x none (some hi) none) (evU (tmpsOf [x,hi]) s) (qr [])=Z0 (kU Y t (qr []) (evU (tmpsOf [x,hi]) s x) none (some (evU (tmpsOf [x,hi]) s hi)) none):=rfl
 show (match effV Y 0 dst (.slice t x none (some hi) none) (evU (tmpsOf [x,hi]) s) (qr []) with|some ⟨true,v,m⟩=>some (v,m)|_=>none)=_
 rw[hv,e1,e2]
 have hq:kU Y t (qr []) (lit (.string (bsO a))) none (some (lit (.int k n))) none=some (true,lit (.string (bsO (a.take j)))):=by
  show Za Y t (qr []) (lit (.string (bsO a))) none (some (lit (.int k n))) none=_
  unfold Za lit
  simp only[hu,bound,zO,Jo]
  subst hn
  have:decide ((0:Int)<=0/\(0:Int)<=(j:Int)/\(j:Int)<=((bsO a).size:Int))=true:=zl ⟨aa,aa,by rw[bsO_size];omega⟩
  rw[this,zT,bsO_extract];rfl
 rw[hq];rfl
theorem B.slLB {lo:Operand} {k:IntKind} {n:Int} {i:Nat} (hx:ev1 s x=lit (.string (bsO a))) (hy:ev1 s lo=lit (.int k n)) (hu:Y.underlying t=some .string) (hn:n=(i:Int)) (hi:i<=a.length) :
 Body P Y nb s ⟨dst,.slice t x (some lo) none none,ty,pos,af,gd⟩ (lit (.string (bsO (a.drop i)))) [] []:=by
 refine B.pure (lo:=0) (nm:=0) (kn P) ?_ ?_
 ·intro z hz
  have:z=x\/z=lo:=by simpa [Op.operands] using hz
  rcases this with rfl|rfl
  ·rw[hx];rfl
  rw[hy];rfl
 have e1:evU (tmpsOf [x,lo]) s x=_:=(qR ao).trans hx
 have e2:evU (tmpsOf [x,lo]) s lo=_:=(qR ao).trans hy
 have hv:effV Y 0 dst (.slice t x (some lo) none none) (evU (tmpsOf [x,lo]) s) (qr [])=Z0 (kU Y t (qr []) (evU (tmpsOf [x,lo]) s x) (some (evU (tmpsOf [x,lo]) s lo)) none none):=by
  show (match frzU (qr []) (refsOf (evU (tmpsOf [x,lo]) s) [x]) with
   | []=>stepV Y 0 dst (.slice t x (some lo) none none) (evU (tmpsOf [x,lo]) s) (qr []) (qr [])
   | fz=>match stepV Y 0 dst (.slice t x (some lo) none none) (evU (tmpsOf [x,lo]) s) (upd fz (qr [])) (upd fz (qr [])) with
    | some ⟨s,v,ms⟩=>some ⟨s,v,mrg ms fz⟩
    | none=>none)=_
  have hrf:refsOf (evU (tmpsOf [x,lo]) s) [x]=[]:=by simp[refsOf,e1,lit,DV.refs]
  rw[hrf];rfl
 show (match effV Y 0 dst (.slice t x (some lo) none none) (evU (tmpsOf [x,lo]) s) (qr []) with|some ⟨true,v,m⟩=>some (v,m)|_=>none)=_
 rw[hv,e1,e2]
 have hq:kU Y t (qr []) (lit (.string (bsO a))) (some (lit (.int k n))) none none=some (true,lit (.string (bsO (a.drop i)))):=by
  show Za Y t (qr []) (lit (.string (bsO a))) (some (lit (.int k n))) none none=_
  unfold Za lit
  simp only[hu,bound,zO,Jo]
  subst hn
  have:decide ((0:Int)<=(i:Int)/\(i:Int)<=((bsO a).size:Int)/\((bsO a).size:Int)<=((bsO a).size:Int))=true:=zl ⟨aa,by rw[bsO_size];omega,aa⟩
  rw[this,zT,zT,bsO_extract,bsO_size,zz (zB _)]
 rw[hq];rfl
theorem B.slMB {lo hi:Operand} {k k':IntKind} {n m:Int} {i j:Nat} (hx:ev1 s x=lit (.string (bsO a))) (hy:ev1 s lo=lit (.int k n)) (hz:ev1 s hi=lit (.int k' m)) (hu:Y.underlying t=some .string) (hn:n=(i:Int)) (hm:m=(j:Int)) (hij:i<=j) (hj:j<=a.length) :
 Body P Y nb s ⟨dst,.slice t x (some lo) (some hi) none,ty,pos,af,gd⟩ (lit (.string (bsO ((a.take j).drop i)))) [] []:=by
 refine B.pure (lo:=0) (nm:=0) (kn P) ?_ ?_
 ·intro z hz'
  have:z=x\/z=lo\/z=hi:=by simpa [Op.operands] using hz'
  rcases this with rfl|rfl|rfl
  ·rw[hx];rfl
  ·rw[hy];rfl
  rw[hz];rfl
 have e1:evU (tmpsOf [x,lo,hi]) s x=_:=(qR ao).trans hx
 have e2:evU (tmpsOf [x,lo,hi]) s lo=_:=(qR ao).trans hy
 have e3:evU (tmpsOf [x,lo,hi]) s hi=_:=(qR ao).trans hz
 have hv:effV Y 0 dst (.slice t x (some lo) (some hi) none) (evU (tmpsOf [x,lo,hi]) s) (qr [])=Z0 (kU Y t (qr []) (evU (tmpsOf [x,lo,hi]) s x) (some (evU (tmpsOf [x,lo,hi]) s lo)) (some (evU (tmpsOf [x,lo,hi]) s hi)) none):=by
  show (match frzU (qr []) (refsOf (evU (tmpsOf [x,lo,hi]) s) [x]) with
   | []=>stepV Y 0 dst (.slice t x (some lo) (some hi) none) (evU (tmpsOf [x,lo,hi]) s) (qr []) (qr [])
   | fz=>match stepV Y 0 dst (.slice t x (some lo) (some hi) none) (evU (tmpsOf [x,lo,hi]) s) (upd fz (qr [])) (upd fz (qr [])) with
    | some ⟨s,v,ms⟩=>some ⟨s,v,mrg ms fz⟩
    | none=>none)=_
  have hrf:refsOf (evU (tmpsOf [x,lo,hi]) s) [x]=[]:=by simp[refsOf,e1,lit,DV.refs]
  rw[hrf];rfl
 show (match effV Y 0 dst (.slice t x (some lo) (some hi) none) (evU (tmpsOf [x,lo,hi]) s) (qr []) with|some ⟨true,v,m⟩=>some (v,m)|_=>none)=_
 rw[hv,e1,e2,e3]
 have hq:kU Y t (qr []) (lit (.string (bsO a))) (some (lit (.int k n))) (some (lit (.int k' m))) none=some (true,lit (.string (bsO ((a.take j).drop i)))):=by
  show Za Y t (qr []) (lit (.string (bsO a))) (some (lit (.int k n))) (some (lit (.int k' m))) none=_
  unfold Za lit
  simp only[hu,bound,zO]
  subst hn;subst hm
  have:decide ((0:Int)<=(i:Int)/\(i:Int)<=(j:Int)/\(j:Int)<=((bsO a).size:Int))=true:=zl ⟨aa,aa,by rw[bsO_size];omega⟩
  rw[this,zT,zT,bsO_extract]
 rw[hq];rfl
end
section
variable {P:Program} {Y:Tab} [qH P Y] {nb:Nat} {s:St} {dst:Option Tmp} {ty u:TypeId} {pos:String} {af:Array Edge} {gd:Option (Nat×Bool)} {t:TypeId} {x y z:Operand}
theorem B.idxE {α:Type} {enc:α->List PV} {l:List α} {h v sz n:Nat} {k:IntKind} {m:Int} {e T:TypeId} (hx:ev1 s x=.aref h v) (hm:qr s.ms h=some (.arr v sz T (l.map enc))) (hy:ev1 s y=lit (.int k m)) (und:Y.underlying t=some (.slice e)) (hs:szT Y e=some sz)
  (hn:m=(n:Int)) (hlt:n<l.length):Body P Y nb s ⟨dst,.indexAddr t x y,ty,pos,af,gd⟩ (.eref h v n 0) [] [h]:=by
 refine .inr (jS.of fun σ G a w hv hl I=>?_)
 have hX:=hv x aS
 have hY:=hv y aS
 rw[hx] at hX;rw[hy] at hY
 have hlk:qr σ.ms h=some (.arr v sz T (l.map enc)):=by grind
 have hq:jT Y t (qr σ.ms) (.aref h v) (lit (.int k m))=some (true,.eref h v n 0):=by
  show jV Y t (qr σ.ms) (.aref h v) (lit (.int k m))=_
  unfold jV lit
  grind
 obtain⟨r,h1,h2⟩:=ZB (P:=P) I.ctxS.sees hq hX hY
 refine⟨r,w,G,.inl ?_,qD I.ctxS h2 (fun k hk=>?_)⟩
 ·simp only[execOp,qp,h1,qo,qq]
 grind [DV.refs,List.mem_singleton]
theorem B.setE {α:Type} {enc:α->List PV} {l:List α} {z0:α} {p:PV} {h v n:Nat} {T:TypeId} (hx:ev1 s x=.eref h v n 0) (hm:qr s.ms h=some (.arr v 1 T (l.map enc))) (hy:ev1 s y=.pv p) (hz:enc z0=[p]) (hc:Z9 p=[p])
  (hs:szT Y t=some 1) (hlt:n<l.length) (hsz:∀ a,(enc a).length=1):Body P Y nb s ⟨dst,.store t x y,ty,pos,af,gd⟩ .dead [(h,.arr v 1 T ((l.set n z0).map enc))] [h]:=by
 refine .inr (jS.of fun σ G a w hv hl I=>?_)
 have hX:=hv x aS
 have hY:=hv y aS
 rw[hx] at hX;rw[hy] at hY
 have hlk:qr σ.ms h=some (.arr v 1 T (l.map enc)):=by grind
 have C:Ctx G w (fun z=>match z with| .tmp 0=>a.eval x| .tmp 1=>a.eval y|_=>undef) (fun z=>match z with| .tmp 0=>.eref h v n 0| .tmp 1=>.pv p|_=>.dead) (qr σ.ms) (qr σ.ms):=by
  refine I.mem.ctx2 (fun z=>?_) (fun z k hk=>?_)
  ·grind [qt]
  split at hk
  ·simp only[DV.refs,zg] at hk;subst hk;exact⟨_,hlk⟩
  ·simp[DV.refs] at hk
  simp[DV.refs] at hk
 have hcv:storeV Y t (.eref h v n 0) (.pv p) (qr σ.ms)=some ⟨true,.dead,[(h,.arr v 1 T ((l.set n z0).map enc))]⟩:=by
  unfold storeV
  have hp:pvOf (qr σ.ms) (.pv p)=some p:=rfl
  have hg:(l.map enc).getD n []=enc (l[n]'hlt):=by grind
  have hd:(enc (l[n]'hlt)).drop 1=[]:=zV (by rw[hsz];omega)
  have hdec:decide (n<(l.map enc).length/\0+1<=1)=true:=zl ⟨by rw[zI];exact hlt,aa⟩
  simp only[hs,hlk,hp,hc,zb,zd,WB,ql,hg,J8,zU,KT,hd,zR,KA,hz]
  grind
 obtain⟨w',G',h1,h2⟩:=storeV_sound (P:=P) C (t:=t) (a:=.tmp 0) (x:=.tmp 1) hcv rfl
 refine⟨undef,w',G',.inr ⟨?_,rfl⟩,h2⟩
 have lift:∀ {q:Sem Unit} {w':World},q.run P w=.ok () w'->(do q;Pure.pure Next.skip:Sem Next).run P w=.ok .skip w':=by
  intro q w' h
  simp only[qp,h,qo,qq]
 exact lift (q:=Instr.storeAt _ _ _) h1
theorem B.lenB1 {c:UInt8} {at':TypeId} (hx:ev1 s x=lit (.string (bsO [c]))) (hu:Y.underlying at'=some .string):Body P Y nb s ⟨dst,.call ⟨.builtin .len,⟨[x]⟩,⟨[at']⟩⟩,ty,pos,af,gd⟩ (lit (.int .i64 1)) [] []:=B.ZM hx hu
end
section
variable {P:Program} {Y:Tab} [qH P Y] {nb:Nat} {s:St} {dst:Option Tmp} {ty u:TypeId} {pos:String} {af:Array Edge} {gd:Option (Nat×Bool)} {t:TypeId} {x y z:Operand}
theorem B.loadE {α:Type} {enc:α->List PV} {l:List α} {z0:α} {p:PV} {h v sz n:Nat} {T:TypeId} (hx:ev1 s x=.eref h v n 0) (hm:qr s.ms h=some (.arr v sz T (l.map enc))) (ha:aggT Y t=some false) (hs:szT Y t=some 1)
  (hlt:n<l.length) (hz:enc (l.getD n z0)=[p]):Body P Y nb s ⟨dst,.load t x,ty,pos,af,gd⟩ (.pv p) [] [h]:=by
 refine .inr (jS.of fun σ G a w hv hl I=>?_)
 have hX:=hv x aS
 rw[hx] at hX
 have hlk:qr σ.ms h=some (.arr v sz T (l.map enc)):=by grind
 have hq:Z4 Y t (qr σ.ms) (.eref h v n 0)=some (true,.pv p):=by
  have hg:(l.map enc).getD n []=[p]:=by grind
  unfold Z4
  grind
 obtain⟨r,h1,h2⟩:=Z8 (P:=P) I.ctxS.sees hq hX
 refine⟨r,w,G,.inl ?_,qD I.ctxS h2 (fun k hk=>by simp[DV.refs] at hk)⟩
 simp only[execOp,qp,h1,qo,qq]
theorem B.slA {α:Type} {enc:α->List PV} {l:List α} {h v sz n:Nat} {k:IntKind} {m:Int} {e T:TypeId} (hx:ev1 s x=.aref h v) (hm:qr s.ms h=some (.arr v sz T (l.map enc))) (hy:ev1 s y=lit (.int k m)) (und:Y.underlying t=some (.slice e)) (hs:szT Y e=some sz)
  (hn:m=(n:Int)) (hle:n<=l.length):Body P Y nb s ⟨dst,.slice t x none (some y) none,ty,pos,af,gd⟩ (.atrunc h v n) [] [h]:=by
 refine .inr (jS.of fun σ G a w hv hl I=>?_)
 have hX:=hv x aS
 have hY:=hv y aS
 rw[hx] at hX;rw[hy] at hY
 have hlk:qr σ.ms h=some (.arr v sz T (l.map enc)):=by grind
 have hq:kU Y t (qr σ.ms) (.aref h v) none (some (lit (.int k m))) none=some (true,.atrunc h v n):=by
  have e0:kU Y t (qr σ.ms) (.aref h v) none (some (lit (.int k m))) none=Za Y t (qr σ.ms) (.aref h v) none (some (lit (.int k m))) none:=by
   unfold kU
   simp only[hlk,und,bound]
  rw[e0]
  unfold Za lit
  subst hn
  have:decide ((0:Int)<=(n:Int)/\(n:Int)<=((l.map enc).length:Int))=true:=zl ⟨aa,by rw[zI];omega⟩
  simp only[und,bound,hs,hlk,ql,this,zT]
 obtain⟨r,h1,h2⟩:=sliceW_sound (P:=P) I.ctxS.sees hq hX (vlo:=none) (vhi:=some (a.eval y)) (vmx:=none) trivial hY trivial
 refine⟨r,w,G,.inl ?_,qD I.ctxS h2 (fun k hk=>?_)⟩
 ·simp only[execOp,JN,qc,qp,h1,qo,qq]
 grind [DV.refs,List.mem_singleton]
end
theorem eqv_i {k:IntKind} {a b:Int}:eqV (.int k) (.lit (.int .i64 a)) (.lit (.int .i64 b))=some (decide (a=b)):=by
 have:(a==b)=decide (a=b):=rfl
 simp[eqV,this]
theorem eqv_s {a b:Nb}:eqV .string (.lit (.string (bsO a))) (.lit (.string (bsO b)))=some (decide (a=b)):=by
 have:decide (a=b)=((bsO a).toList==(bsO b).toList):=by rw[zL];simp[toList_inj,bsO_inj]
 rw[this];rfl
theorem eqv_cons {d:TypeDesc} {ds:List TypeDesc} {x y:PV} {xs ys:List PV} {a b:Bool} (h1:eqV d x y=some a) (h2:eqVs ds xs ys=some b):eqVs (d::ds) (x::xs) (y::ys)=some (a&&b):=by simp only[eqVs,h1,h2]
theorem eqv_last {d:TypeDesc} {x y:PV} {a:Bool} (h1:eqV d x y=some a):eqVs [d] [x] [y]=some a:=by simp only[eqVs,h1,Kb]
section
variable {P:Program} {Y:Tab} [qH P Y] {nb:Nat} {s:St} {dst:Option Tmp} {ty u:TypeId} {pos:String} {af:Array Edge} {gd:Option (Nat×Bool)} {t:TypeId} {x y:Operand}
theorem B.stqN {ds:List TypeDesc} {xs ys:List PV} {r:Bool} (hx:ev1 s x=.pv (.agg xs)) (hy:ev1 s y=.pv (.agg ys)) (hf:flatEq Y t=some ds) (he:eqVs ds xs ys=some r):Body P Y nb s ⟨dst,.binOp .neq t x y u,ty,pos,af,gd⟩ (lit (.bool (!r))) [] []:=by
 refine B.bin hx hy ?_
 have h2:binQ Y .neq t (.pv (.agg xs)) (.pv (.agg ys))=some (true,lit (.bool (!r))):=by simp only[binQ,hf,he]
 show qE (binW Y .neq t (qr []) (Z2 y) _ _)=_
 have h3:binW Y .neq t (qr []) (Z2 y) (.pv (.agg xs)) (.pv (.agg ys))=some (true,lit (.bool (!r))):=by
  unfold binW
  simp only[nilQ,nilKind,samePQ,h2]
 rw[h3];rfl
end
section
variable {P:Program} {n nb:Nat} {Q:Exit->St->Prop} {c:Code} {s:St}
theorem pk_goto [Fc] (hq:∀ l s,¬Q (.goto l) s):∀ {K:List Fr} {l:Nat} {s:St},¬PK P n nb Q K (.goto l) s
 | [],l,s,h=>hq l s h
 | .seq y::K,l,s,h=>pk_goto hq (K:=K) h
 | .blk id::K,l,s,h=>pk_goto hq (K:=K) h
 | .lp C::K,l,s,h=>pk_goto hq (K:=K) h
theorem TK.scope {K:List Fr} (hq:∀ l s,¬Q (.goto l) s) (h:TK P n nb Q c K s):TK P n nb Q (.scope c) K s:=by
 intro G a w R I hn hK
 refine wpIn_wide.2 (wp_scope_straight (wpIn_wide.1 (h G a w _ I hn ?_)))
 intro e s' G1 a1 w1 q I1 Sn1 hn1 hd1
 have:=hK e s' G1 a1 w1 q I1 Sn1 hn1 hd1
 cases e with
 | goto l=>exact absurd q (pk_goto hq)
 | _=>exact this
theorem TK.label [Fc] {K:List Fr} {l:Nat} (h:PK P n nb Q K .normal s):TK P n nb Q (.label l) K s:=by
 intro G a w R I hn hK
 exact wpIn_label (hK _ s G a w h I (Since.refl _ _ _ _) hn (Mks.of Z))
end
theorem wrap_u8 {n:Int} (h0:0<=n) (h1:n<256):IntKind.wrap .u8 n=n:=by
 have e:n%(2 ^ 8:Int)=n:=XR h0 aa
 have hb:IntKind.u8.bits=8:=rfl
 have hs:IntKind.u8.signed=false:=rfl
 unfold IntKind.wrap
 grind
section
variable {P:Program} {Y:Tab} [qH P Y] {nb:Nat} {s:St} {dst:Option Tmp} {ty u:TypeId} {pos:String} {af:Array Edge} {gd:Option (Nat×Bool)} {t:TypeId} {x y:Operand}
theorem B.lenA {α:Type} {enc:α->List PV} {l:List α} {h v sz:Nat} {at' e T:TypeId} (hx:ev1 s x=.aref h v) (hm:qr s.ms h=some (.arr v sz T (l.map enc))) (hu:Y.underlying at'=some (.slice e)):Body P Y nb s ⟨dst,.call ⟨.builtin .len,⟨[x]⟩,⟨[at']⟩⟩,ty,pos,af,gd⟩ (lit (.int .i64 (l.length:Int))) [] [h]:=by
 refine .inr (jS.of fun σ G a w hv hl I=>?_)
 have hX:=hv x (by simp[Op.operands,Call.operands])
 rw[hx] at hX
 have hlk:qr σ.ms h=some (.arr v sz T (l.map enc)):=by grind
 have hq:lenQ Y at' (qr σ.ms) (.aref h v)=some (true,lit (.int .i64 (l.length:Int))):=by
  unfold lenQ
  rw[hu]
  simp[lenOf,hlk]
 obtain⟨r,h1,h2⟩:=lenQ_sound (P:=P) (ty:=ty) I.ctxS.sees hq hX
 refine⟨r,w,G,.inl ?_,qD I.ctxS h2 (fun k hk=>by simp[lit,DV.refs] at hk)⟩
 simp only[execOp,resolve,qp,qq,qo,invoke,builtin,Je,zy,zX]
 rw[h1];rfl
theorem B.appendZ {α:Type} {enc:α->List PV} {l r:List α} {h v sz:Nat} {T:TypeId} {i:TypeInfo} {at1:TypeId} {d:Tmp} (hx:ev1 s x=.aref h v) (hm:qr s.ms h=some (.arr v sz T (l.map enc))) (hy:ev1 s y=.pv (.slice (r.map enc)))
  (hu:Y.underlying at1=some (.slice T)) (hi:Y.info? T=some i) (hok:(Nat.blt 0 i.size&&i.zero.isSome&&Nat.beq (i.zero.getD default).cells.size i.size&&Nat.beq sz i.size)=true) (hsz:∀ a,(enc a).length=sz) {bs:Nat} (hbs:i.bytes=bs)
  (hlen:(l.length+r.length)*bs<=140737488355328/\l.length+r.length<=9223372036854775807) :
  Body P Y nb s ⟨some d,.call ⟨.builtin .append,⟨[x,y]⟩,⟨[at1,at1]⟩⟩,ty,pos,af,gd⟩ (.pv (.slice ((l++r).map enc))) [(h,.farr (v+1) ((l++r).map enc))] [h]:=by
 subst hbs
 simp only[zj,Wq,Ws] at hok
 obtain⟨⟨⟨k1,k2⟩,k3⟩,k4⟩:=hok
 subst k4
 have e1:evU (tmpsOf [x,y]) s x=.aref h v:=(qR ao).trans hx
 have e2:evU (tmpsOf [x,y]) s y=.pv (.slice (r.map enc)):=(qR ao).trans hy
 have hrs:([x,y].flatMap fun x'=>(evU (tmpsOf [x,y]) s x').refs)=[h]:=by simp[e1,e2,DV.refs]
 have hsel:sel s.ms (jX s.ms 10000 [h] [])=[(h,.arr v i.size T (l.map enc))]:=by
  have:jX s.ms 10000 [h] []=[h]:=by
   show (bif ([]:List Nat).any (Nat.beq h) then _ else _)=_
   simp only[Ky,Ww,hm,MO.refs,zU];rfl
  rw[this];simp only[sel,hm]
 refine .inl ⟨O0,[(h,.arr v i.size T (l.map enc))],_,_,0,0,kn P,?_,?_,?_,?_,Frz.arr _ h (v+1) i.size T ((l++r).map enc),?_⟩
 ·show ledM s.ms ([x,y].flatMap fun x'=>(evU (tmpsOf [x,y]) s x').refs) 2=_
  rw[hrs];exact hsel
 ·show rdM s.ms ([x,y].flatMap fun x'=>(evU (tmpsOf [x,y]) s x').refs) [(h,.arr v i.size T (l.map enc))] 2=_
  rw[hrs];rfl
 ·show (q7 [(h,.arr v i.size T (l.map enc))]&&([x,y].flatMap fun x'=>(evU (tmpsOf [x,y]) s x').refs).all (jH [(h,.arr v i.size T (l.map enc))]))=true
  rw[hrs]
  simp[q7,MO.refs,jH,qy]
 ·have ha:kP Y 0 at1 at1 (.aref h v) (.pv (.slice (r.map enc))) (qr [(h,.arr v i.size T (l.map enc))]) (qr [(h,.arr v i.size T (l.map enc))])=some ⟨true,.aref h (v+1),[(h,.arr (v+1) i.size T ((l++r).map enc))]⟩:=by
   unfold kP
   have hl:qr [(h,MO.arr v i.size T (l.map enc))] h=some (.arr v i.size T (l.map enc)):=by rw[qy,WK rfl]
   have hs:srcOf Y at1 at1 i (qr [(h,.arr v i.size T (l.map enc))]) (.aref h v) (.pv (.slice (r.map enc)))=some (r.map enc):=by unfold srcOf;simp[conts]
   have hq:(decide (0<i.size)&&i.zero.isSome&&decide ((i.zero.getD default).cells.size=i.size))=true:=by grind
   have hal:j6 i.size (r.map enc)=true:=by grind [j6,List.all_eq_true]
   grind
  have hv:effV Y 0 (some d) (.call ⟨.builtin .append,⟨[x,y]⟩,⟨[at1,at1]⟩⟩) (evU (tmpsOf [x,y]) s) (qr [(h,.arr v i.size T (l.map enc))])=some ⟨true,.aref h (v+1),[(h,.arr (v+1) i.size T ((l++r).map enc))]⟩:=by
   show (match truncU _ (evU (tmpsOf [x,y]) s x) with|some (d',h',m)=>_|none=>kP Y 0 at1 at1 (evU (tmpsOf [x,y]) s x) (evU (tmpsOf [x,y]) s y) _ _)=_
   rw[e1,e2]
   exact ha
  show (match effV Y 0 (some d) (.call ⟨.builtin .append,⟨[x,y]⟩,⟨[at1,at1]⟩⟩) (evU (tmpsOf [x,y]) s) (qr [(h,.arr v i.size T (l.map enc))]) with|some ⟨true,v,m⟩=>some (v,m)|_=>none)=_
  rw[hv]
 simp[jH,qy]
end
section
variable {P:Program} {Y:Tab} [qH P Y] {nb:Nat} {s:St} {dst:Option Tmp} {ty u:TypeId} {pos:String} {af:Array Edge} {gd:Option (Nat×Bool)} {t:TypeId} {x y:Operand}
theorem B.remN {a b:Int} (hx:ev1 s x=lit (.int .i64 a)) (hy:ev1 s y=lit (.int .i64 b)) (ha:0<=a) (hb:0<b):Body P Y nb s ⟨dst,.binOp .rem t x y u,ty,pos,af,gd⟩ (lit (.int .i64 (a%b))) [] []:=by
 have e:a.tmod b=a%b:=Qu ha
 have:=B.rem (P:=P) (Y:=Y) (nb:=nb) (dst:=dst) (ty:=ty) (u:=u) (pos:=pos) (af:=af) (gd:=gd) (t:=t) hx hy aa
 rw[e] at this;exact this
theorem B.storeR {h c v sz hh:Nat} {T T2:TypeId} {ds ds2:List DV} {es:List (List PV)} (hx:ev1 s x=.bref h c) (hm:qr s.ms h=some (.box T ds)) (hy:ev1 s y=.aref hh v) (hm2:qr s.ms hh=some (.arr v sz T2 es))
  (hs:szT Y t=some 1) (hle:Nat.ble (c+1) ds.length=true) (hd:ds.take c++[.aref hh v]++ds.drop (c+1)=ds2):Body P Y nb s ⟨dst,.store t x y,ty,pos,af,gd⟩ .dead [(h,.box T ds2)] [h,hh]:=by
 subst hd
 refine .inr (jS.of fun σ G a w hv hl I=>?_)
 have hX:=hv x aS
 have hY:=hv y aS
 rw[hx] at hX;rw[hy] at hY
 have hlk:qr σ.ms h=some (.box T ds):=by grind
 have hlk2:qr σ.ms hh=some (.arr v sz T2 es):=by grind
 have C:Ctx G w (fun z=>match z with| .tmp 0=>a.eval x| .tmp 1=>a.eval y|_=>undef) (fun z=>match z with| .tmp 0=>.bref h c| .tmp 1=>.aref hh v|_=>.dead) (qr σ.ms) (qr σ.ms):=by
  refine I.mem.ctx2 (fun z=>?_) (fun z k hk=>?_)
  ·grind [qt]
  split at hk
  ·simp only[DV.refs,zg] at hk;subst hk;exact⟨_,hlk⟩
  ·simp only[DV.refs,zg] at hk;subst hk;exact⟨_,hlk2⟩
  simp[DV.refs] at hk
 have hcv:storeV Y t (.bref h c) (.aref hh v) (qr σ.ms)=some ⟨true,.dead,[(h,.box T (ds.take c++[.aref hh v]++ds.drop (c+1)))]⟩:=by
  unfold storeV
  have hok:Zg (qr σ.ms) (.aref hh v)=true:=by simp[Zg,hlk2]
  have hcl:kC (.aref hh v)=[.aref hh v]:=rfl
  have hdec:decide (c+1<=ds.length)=true:=zl (zW hle)
  grind
 obtain⟨w',G',h1,h2⟩:=storeV_sound (P:=P) C (t:=t) (a:=.tmp 0) (x:=.tmp 1) hcv rfl
 refine⟨undef,w',G',.inr ⟨?_,rfl⟩,h2⟩
 have lift:∀ {q:Sem Unit} {w':World},q.run P w=.ok () w'->(do q;Pure.pure Next.skip:Sem Next).run P w=.ok .skip w':=by
  intro q w' h
  simp only[qp,h,qo,qq]
 exact lift (q:=Instr.storeAt _ _ _) h1
end
section
variable {P:Program} {Y:Tab} [qH P Y] {nb:Nat} {s:St} {dst:Option Tmp} {ty u:TypeId} {pos:String} {af:Array Edge} {gd:Option (Nat×Bool)} {t:TypeId} {x y:Operand}
theorem B.lookK {h:Nat} {ks vs:List PV} {key z:PV} {r:Option PV} {kt et:TypeId} {kd:TypeDesc} (hx:ev1 s x=.mref h) (hm:qr s.ms h=some (.map ks vs)) (hy:ev1 s y=.pv key) (und:Y.underlying t=some (.map kt et)) (uk:Y.underlying kt=some kd)
  (hz:(Y.info? et).bind (fun i=>i.zero.bind valPV)=some z) (hpk:plainKey kd key=true) (hks:(plainKeys kd ks&&ks.length==vs.length)=true) (hr:Zx key ks vs=r) :
  Body P Y nb s ⟨dst,.lookup t x y true,ty,pos,af,gd⟩ (.tup [.pv (r.getD z),lit (.bool r.isSome)]) [] [h]:=by
 subst hr
 refine .inr (jS.of fun σ G a w hv hl I=>?_)
 have hX:=hv x aS
 have hY:=hv y aS
 rw[hx] at hX;rw[hy] at hY
 have hlk:qr σ.ms h=some (.map ks vs):=by grind
 have hq:ZS Y t (mapOf (qr σ.ms) (.mref h)) (.pv key) true=some (true,.tup [.pv ((Zx key ks vs).getD z),lit (.bool (Zx key ks vs).isSome)]):=by
  have hmo:mapOf (qr σ.ms) (.mref h)=.pv (.map ks vs):=by simp only[mapOf,hlk]
  rw[hmo]
  simp only[ZS,und,uk,hz,hpk,ql,hks]
 obtain⟨r,h1,h2⟩:=lookupW_sound (P:=P) I.ctxS.sees hq hX hY
 refine⟨r,w,G,.inl ?_,qD I.ctxS h2 (fun k hk=>by simp[DV.refs,DV.qL,lit] at hk)⟩
 simp only[execOp,qp,h1,qo,qq]
end
theorem relDVs_at {G1 G2:Gh} {R:Rd} {h2:Nat} (hq:∀ v,qt G1 R .nils v->qt G2 R (.aref h2 0) v):∀ {ds:List DV} {c:Nat} {vs:List Value},ds[c]? =some .nils->(∀ k∈DV.qL ds,G1.keeps G2 k)->qz G1 R ds vs->qz G2 R (ds.set c (.aref h2 0)) vs
 | [],c,vs,hc,_,_=>by simp at hc
 | d::ds,0,vs,hc,hk,H=>by
  have e:d=.nils:=by simpa using hc
  subst e
  simp only[qz,XE] at H ⊢
  obtain⟨v,vs',rfl,k1,k2⟩:=H
  exact⟨v,vs',rfl,hq v k1,qz.mono (Rd.Le.rfl R) ds vs' (fun k hk2=>hk k aT) k2⟩
 | d::ds,c+1,vs,hc,hk,H=>by
  simp only[qz,XD] at H ⊢
  obtain⟨v,vs',rfl,k1,k2⟩:=H
  exact⟨v,vs',rfl,qt.mono (Rd.Le.rfl R) d v (fun k hk2=>hk k (by simp only[DV.qL,zH];exact .inl hk2)) k1,relDVs_at hq (by simpa using hc) (fun k hk2=>hk k aT) k2⟩
theorem wk_adoptC {nb:Nat} {s:St} {h c h2 sz:Nat} {T0 T:TypeId} {ds:List DV} (hm:qr s.ms h=some (.box T0 ds)) (hc:ds[c]? =some .nils) (hf:qr s.ms h2=none) :
  Wk nb s ⟨s.tm,(h,.box T0 (ds.set c (.aref h2 0)))::(h2,.arr 0 sz T [])::s.ms⟩:=by
 intro G a w I
 have M:=I.mem
 have hb:=M.ms _ _ hm
 have hne:h≠h2:=by grind
 have L:=Later.refl G w
 have hkeep:∀ k o,qr s.ms k=some o->(G.turn h2 { esz:=sz,arr:=true }).ρ k=G.ρ k:=by
  intro k o hk
  have:k≠h2:=by rintro rfl;rw[hf] at hk;cases hk
  simp only[Gh.turn,this,qm]
 have hrefs:∀ k∈DV.qL ds,∃ o,qr s.ms k=some o:=fun k hk=>M.refsM h _ k hm hk
 have S1:Stepped G w (qr s.ms) .dead [(h,.box T0 (ds.set c (.aref h2 0))),(h2,.arr 0 sz T [])] (G.turn h2 { esz:=sz,arr:=true }) w undef:=by
  refine⟨⟨L.base,L.R0,L.R0c,L.R0m,L.os,L.tape,L.output,L.size,L.cold,L.drawn⟩,by simp only[qt],?_,?_,?_,M.fresh,fun _ _ hb=>.inr hb,fun k hk=>by simp[DV.refs] at hk,?_,fun _ _ hb=>.inl hb,fun _ _ _ _ h=>.inl h,fun _ _ _ h=>.inl h⟩
  ·intro k o hk
   simp only[zF,zx,qi,WE] at hk
   rcases hk with ⟨rfl,rfl⟩|⟨rfl,rfl⟩
   ·simp only[qW] at hb ⊢
    obtain⟨e1,b,c1,e2,e3,e4,e5,e6⟩:=hb
    have er:=hkeep k _ hm
    refine⟨by rw[er];exact e1,b,c1,by rw[er];exact e2,e3,e4,e5,?_⟩
    exact relDVs_at (G1:=G) (fun v hv=>by
     simp only[qt] at hv
     simp only[qt,Gh.turn,ql]
     exact⟨zB _,fun _=>hv⟩) hc (fun k2 hk2=>by
     obtain⟨o,ho⟩:=hrefs k2 hk2
     exact .inl (hkeep k2 o ho)) e6
   simp only[qW,Gh.turn,ql]
   exact⟨trivial,trivial,trivial,rfl,zB _,ao,.inl ⟨trivial,trivial⟩⟩
  ·intro k o hk
   exact .inl (hkeep k o hk)
  ·intro k hk
   simp only[zy,zX,zF,qi,WE,not_or] at hk
   simp only[Gh.turn,hk.2,qm]
   grind
  intro k o hk k2 hh
  simp only[zF,zx,qi,WE] at hk
  rcases hk with ⟨rfl,rfl⟩|⟨rfl,rfl⟩
  ·simp only[MO.refs] at hh
   obtain⟨d,hd,hkd⟩:=jz.1 hh
   rcases QE hd with hd|rfl
   ·exact .inr (hrefs k2 (jz.2 ⟨d,hd,hkd⟩))
   grind [DV.refs,List.mem_singleton]
  simp[MO.refs] at hh
 obtain⟨I1,Sn1⟩:=I.eff (K:=nb) S1 none ao
 exact⟨_,I1,Sn1⟩
theorem TK.adoptC [Fc] {P:Program} {n nb:Nat} {Q:Exit->St->Prop} {K:List Fr} {x:Code} {s:St} {T0:TypeId} {ds ds2:List DV} (h c h2 sz:Nat) (T1:TypeId) (hm:qr s.ms h=some (.box T0 ds)) (hc:ds[c]? =some .nils) (hf:qr s.ms h2=none)
  (hd:ds.set c (.aref h2 0)=ds2) (k:TK P n nb Q x K ⟨s.tm,(h,.box T0 ds2)::(h2,.arr 0 sz T1 [])::s.ms⟩):TK P n nb Q x K s:=by
 subst hd
 exact T.weak (wk_adoptC hm hc hf) k
theorem Inv.act {G:Gh} {σ:Vw} {a a':Act} {w:World} (I:Inv G σ a w) (h:a'.tmps=a.tmps):Inv G σ a' w:=
 ⟨fun s=>by rw[h];exact I.ts s,fun s hs=>I.size s (by rw[<-h];exact hs),I.ms,I.fresh,I.own,I.refsT,I.refsM,I.r0,I.r0m,I.baseLe,I.laid⟩
theorem Inv.look {G:Gh} {tm:List (Nat×DV)} {ms ms':Na} {a:Act} {w:World} (I:Inv G (St.vw ⟨tm,ms⟩) a w) (h:∀ k,qr ms' k=qr ms k):Inv G (St.vw ⟨tm,ms'⟩) a w:=by
 have e:qr ms'=qr ms:=funext h
 have:St.vw ⟨tm,ms'⟩=St.vw ⟨tm,ms⟩:=by unfold St.vw;simp only[e]
 rw[this];exact I
def recG (B:Base) (st:LoopState) (pe:Bool):Obj:=
 .loop { state:=st,pending:=bif pe then some .ret else none,fn:=B.fn,tmps:=B.us.toArray,params:=B.ps,assign:=B.asg,body:=B.bd,defers:=B.dn }
theorem Inv.turnObj {G:Gh} {tm:List (Nat×DV)} {ms:Na} {a:Act} {w:World} {K h:Nat} {o':Obj} {st st':LoopState} {pe pe':Bool} {m:MO} (I:Inv G (St.vw ⟨tm,ms⟩) a w) (hm:qr ms h=some (.lrec st pe)) (h2:(m=.lrec st' pe'/\o'=recG (G.ρ h) st' pe')\/m=.gone) :
  Inv G (St.vw ⟨tm,(h,m)::ms⟩) a (w.putObj (G.ρ h).map o')/\Since K (qr ms) G w (qr ((h,m)::ms)) G (w.putObj (G.ρ h).map o'):=by
 have hr:m.refs=[]:=by rcases h2 with ⟨rfl,_⟩|rfl<;>rfl
 obtain⟨k1,k2,k3⟩:=I.ms _ _ hm
 have S:=q8 (m:=m) (val:=.dead) (r:=undef) I.ctxS (B:=G.ρ h) (h:=h) hm aU (w':=w.putObj (G.ρ h).map o') Z Z Z ao
  (fun b hb=>World.putObj_heap_other (by rintro rfl;exact hb k2)) aB (by
   rw[Gh.qT]
   rcases h2 with ⟨rfl,rfl⟩|rfl
   ·exact⟨k1,k2,World.putObj_heap_same (zS.1 k3).1⟩
   trivial) ak (by rw[hr];simp)
 rw[Gh.qT] at S
 exact I.eff (s:=⟨tm,ms⟩) (K:=K) S none ao
def YieldAs (P:Program) (l:Nat) (vs:Array Value) (w:World) (R:Value->World->Prop):Prop:=
 ∃ fn tmps assign body,(Instr.yield l vs).run P w=.ok (.round l fn tmps assign body) w/\RoundIn Fence.wide 0 P l fn tmps assign body w fun e w'=>∃ r,e=.returned r/\R r w'
structure YldOk (P:Program) (h:Nat) (ps:Array Tmp) (asg bd:Code) (ds args:List DV) (look:Nat->Option MO) (val:DV) (ms:Na):Prop where
 call:∀ (G:Gh) (w:World) (vs:Array Value),ZZ G look w->qt G (G.rd w) (.yld h ps asg bd ds) (.func (.yield (G.ρ h).map) #[] #[])->qz G (G.rd w) args vs.toList->
  YieldAs P (G.ρ h).map vs w fun r w'=>∃ G',Stepped G w look val ms G' w' r
theorem YldOk.frame {P:Program} {h:Nat} {ps:Array Tmp} {asg bd:Code} {ds args:List DV} {l L:Nat->Option MO} {val:DV} {ms:Na} (H:YldOk P h ps asg bd ds args l val ms)
  (hsub:∀ h o,l h=some o->L h=some o) (hcl:∀ k o h,l k=some o->h∈o.refs->∃ o',l h=some o') (hnew:∀ h,h∈ms.map (·.1)->l h=none->L h=none):YldOk P h ps asg bd ds args L val ms:=by
 refine⟨fun G w vs M hy hv=>?_⟩
 obtain⟨fn,t,asg,b,e1,R⟩:=H.call (G.part w l) w vs (M.part (fun h o e=>.inl (hsub h o e)) hcl) (qt.mono (G:=G) (part_le M) _ _ (fun _ _=>.inl rfl) hy) (qz.mono (G:=G) (part_le M) _ _ (fun _ _=>.inl rfl) hv)
 refine⟨fn,t,asg,b,e1,RoundIn.mono R ?_⟩
 rintro e w' ⟨r,rfl,G1,S⟩
 obtain⟨G2,S2⟩:=S.frame M (fun h o e=>.inl (hsub h o e)) hcl hnew
 exact⟨r,rfl,G2,S2⟩
section
variable {P:Program} {Y:Tab} [qH P Y] {nb:Nat} {s:St} {dst:Option Tmp} {ty:TypeId} {pos:String} {af:Array Edge} {gd:Option (Nat×Bool)}
theorem B.yieldS {f:Operand} {args:Array Operand} {ats:Array TypeId} {h:Nat} {ps:Array Tmp} {asg bd:Code} {ds xs:List DV} {val:DV} {l out:Na} (H:YldOk P h ps asg bd ds xs (qr l) val out) (hf:ev1 s f=.yld h ps asg bd ds)
  (hds:args.toList.map (ev1 s)=xs) (hsub:SubL s.ms l) (hcl:q7 l=true) (hnew:out.all (fun p=>jH l p.1||!jH s.ms p.1)=true):Body P Y nb s ⟨dst,.call ⟨.value f,args,ats⟩,ty,pos,af,gd⟩ val out (l.map (·.1)):=by
 refine .inr fun σ G a w next Q h1 h2 I hn rr=>?_
 have hops:(Op.call ⟨.value f,args,ats⟩).operands.toList=f::args.toList:=call_ops
 rw[hops] at h1
 have hev:∀ z∈f::args.toList,ev1 σ z=ev1 s z:=fun z hz=>ev1_agree h1 hz
 have hF:qt G (G.rd w) (ev1 s f) (a.eval f):=by rw[<-hev f ao];exact Zq I f
 rw[hf] at hF
 have hF0:=hF
 simp only[qt] at hF
 obtain⟨g1,g2,g3⟩:=hF
 have hargs:qz G (G.rd w) (args.toList.map (ev1 s)) (args.toList.map a.eval):=by
  rw[<-List.map_congr_left (f:=ev1 σ) (g:=ev1 s) (fun z hz=>hev z (by simp[hz]))]
  have:∀ l:List Operand,qz G (G.rd w) (l.map (ev1 σ)) (l.map a.eval):=by
   intro l
   induction l with
   | nil=>simp[qz]
   | cons z l ih=>simp only[zy,qz];exact⟨_,_,rfl,Zq I z,ih⟩
  exact this _
 have HL:YldOk P h ps asg bd ds xs (qr σ.ms) val out:=by
  refine H.frame (fun h o e=>?_) (fun k o h e hh=>ko hcl k o e h hh) (fun h hh e=>?_)
  ·obtain⟨e1,e2⟩:=hsub.look e
   rw[h2 h (.inl e2)];exact e1
  rw[h2 h (.inr hh)];exact allHas hnew h hh e
 obtain⟨fn,t,avs',b,e1,R⟩:=HL.call G w (args.map a.eval) I.mem (by rw[<-g2];exact hF0) (by rw[<-hds];simpa using hargs)
 have hexec:(execOp a.eval ⟨dst,.call ⟨.value f,args,ats⟩,ty,pos,af,gd⟩).run P w=(Instr.yield (G.ρ h).map (args.map a.eval)).run P w:=by simp only[execOp,resolve,g2,Deferred.ofValue,qp,qq,qo,invoke,Array.empty_append]
 refine⟨fun _ _=>trivial,?_⟩
 show Oper.uponIn (fcR rr) 0 P _ a next Q ((Oper.semAt rr a.eval _).run P w)
 rw[Oper.semAt_eq _ _ _ ao,hexec,e1,Oper.uponIn_round]
 refine⟨(fun hh=>by simp[fcR,Fence.wide] at hh),RoundIn.mono (F:=Fence.wide) R ?_⟩
 grind
end
def zipP:List Tmp->List DV->List (Nat×DV)->List (Nat×DV)
 | p::ps,d::ds,tm=>zipP ps ds ((p,d)::tm)
 | _,_,tm=>tm
theorem zipP_rel {G:Gh} {R:Rd} {n:Nat}:∀ {ps:List Tmp} {args:List DV} {vs:List Value} {tm:List (Nat×DV)} {tmps:Array Value},ps.length=args.length->(∀ p∈ps,p<n)->tmps.size=n->qz G R args vs->
  (∀ s,qt G R (jJ tm s) (tmps.getD s undef))->(∀ s,n<=s->jJ tm s=.dead)->
  (∀ s,qt G R (jJ (zipP ps args tm) s) (((ps.zip vs).foldl (fun t (p:Tmp×Value)=>t.setIfInBounds p.1 p.2) tmps).getD s undef))/\(∀ s,n<=s->jJ (zipP ps args tm) s=.dead)/\
   ((ps.zip vs).foldl (fun t (p:Tmp×Value)=>t.setIfInBounds p.1 p.2) tmps).size=n
 | [],[],vs,tm,tmps,_,_,hn,h,h1,h2=>by
  simp only[qz] at h
  subst h
  exact⟨h1,h2,hn⟩
 | p::ps,[],vs,tm,tmps,hl,_,hn,h,h1,h2=>by simp at hl
 | [],d::ds,vs,tm,tmps,hl,_,hn,h,h1,h2=>by simp at hl
 | p::ps,d::ds,vs,tm,tmps,hl,hp,hn,h,h1,h2=>by
  simp only[qz] at h
  obtain⟨v,vs',rfl,hv,hvs⟩:=h
  have hpn:=hp p ao
  simp only[zipP,List.zip_cons_cons,JA]
  refine zipP_rel (by simpa using hl) (fun q hq=>hp q (by simp[hq])) (by simpa using hn) hvs (fun s=>?_) (fun s hs=>?_)
  ·rw[jF]
   simp only[zC,Qm]
   by_cases e:p=s
   ·subst e;simp[hn,hpn,hv]
   simp only[e,qm]
   simpa [zC] using h1 s
  grind [jF]
theorem zipP_refs:∀ {ps:List Tmp} {args:List DV} {tm:List (Nat×DV)} {s h:Nat},h∈(jJ (zipP ps args tm) s).refs->h∈DV.qL args\/∃ s,h∈(jJ tm s).refs
 | [],args,tm,s,h,hh=>by cases args<;>exact .inr ⟨s,hh⟩
 | p::ps,[],tm,s,h,hh=>.inr ⟨s,hh⟩
 | p::ps,d::ds,tm,s,h,hh=>by
  simp only[zipP] at hh
  rcases zipP_refs hh with e|⟨s',e⟩
  ·exact .inl (by simp[DV.qL,e])
  rw[jF] at e
  split at e
  ·exact .inl (by simp[DV.qL,e])
  exact .inr ⟨s',e⟩
section
variable {P:Program} {n nb:Nat}
theorem YldOk.of {hl:Nat} {ds args:List DV} {ps:Array Tmp} {assign body:Code} {l0 l1 out:Na} {tm1:List (Nat×DV)} (b:Bool)
  (hdl:ds.length=n) (hps:ps.toList.length=args.length) (hpn:∀ t∈ps.toList,t<n) (hK:∀ h o,qr l0 h=some o->h<nb)
  (h0:qr l0 hl=some (.lrec .ready false)) (href:(DV.qL (args++ds)).all (jH l0)=true)
  (hA:∀ r:Nat, @T _ ⟨some r⟩ P n nb assign ⟨zipP ps.toList args (zipT 0 ds),l0⟩ fun e s'=>e=.normal/\Wk nb s' ⟨tm1,l1⟩)
  (h1:qr l1 hl=some (.lrec .ready false))
  (hB:∀ r:Nat, @T _ ⟨some r⟩ P n nb body ⟨tm1,(hl,.lrec .busy false)::l1⟩ fun e s'=>e=(bif b then .normal else .ret)/\Wk nb s' ⟨[],(hl,.lrec .busy false)::out⟩)
  (hne:∀ p∈out,p.1≠hl) (hnd:∀ h o,(h,o)∈out->qr out h=some o) (hold:l0.all (fun p=>jH ((hl,.gone)::out) p.1)=true) (hcl:q7 ((hl,.gone)::out)=true) :
  YldOk P hl ps assign body ds args (qr l0) (lit (.bool b)) ((hl,.lrec (bif b then .ready else .done) (!b))::out):=by
 refine⟨fun G w vs M hy hv=>?_⟩
 simp only[qt] at hy
 obtain⟨ha,_,⟨hp0,ha0,hb0⟩,hds⟩:=hy
 obtain⟨k1,k2,k3⟩:=M.ms _ _ h0
 rw[hp0,ha0,hb0] at k3
 have hvl:vs.size=ps.size:=by
  have e1:=hv.length
  grind
 obtain⟨us,hus0⟩:∃ us,us=(G.ρ hl).us:=⟨_,rfl⟩
 have hus:us.length=n:=by have:=hds.length;rw[hus0];omega
 rw[<-hus0] at hds
 have hy:=run_yield (P:=P) (args:=vs) k3 hvl
 have hbase:∀ s,qt G (G.rd w) (jJ (zipT 0 ds) s) (us.toArray.getD s undef):=by
  intro s
  by_cases hs:s<n
  ·rcases getT_zipT G (G.rd w) ds us 0 s hds with h|h
   ·omega
   have:us.toArray.getD s undef=(us[s-0]?).getD undef:=by simp[zC]
   rw[this];exact h
  grind [kH,qt]
 obtain⟨z1,z2,z3⟩:=zipP_rel (G:=G) (R:=G.rd w) (n:=n) (ps:=ps.toList) (args:=args) (vs:=vs.toList) (tm:=zipT 0 ds) (tmps:=us.toArray) hps hpn (by simpa using hus) hv hbase (fun s hs=>kH ds 0 s aa)
 have hfold:(ps.zip vs).foldl (fun (tmps:Array Value) (x:Tmp×Value)=>tmps.setIfInBounds x.1 x.2) us.toArray=(ps.toList.zip vs.toList).foldl (fun t (p:Tmp×Value)=>t.setIfInBounds p.1 p.2) us.toArray:=by rw[<-Array.foldl_toList,Array.toList_zip]
 rw[<-hfold] at z1 z3
 have hrf:∀ h∈DV.qL (args++ds),∃ o,qr l0 h=some o:=fun h hh=>kj.1 (zr.1 href h hh)
 have hrL:∀ (xs ys:List DV),DV.qL (xs++ys)=DV.qL xs++DV.qL ys:=by
  intro xs ys
  induction xs with
  | nil=>rfl
  | cons x xs ih=>simp only[zQ,DV.qL,ih,zZ]
 rw[hrL] at hrf
 have I0:Inv G (St.vw ⟨zipP ps.toList args (zipT 0 ds),l0⟩) ⟨(ps.zip vs).foldl (fun (tmps:Array Value) (x:Tmp×Value)=>tmps.setIfInBounds x.1 x.2) us.toArray,[]⟩ w:=by
  refine⟨z1,fun s hs=>z2 s (by simp only at hs;omega),M.ms,M.fresh,M.own,fun s h hh=>?_,M.refsM,M.r0,M.r0m,M.baseLe,M.laid⟩
  rcases zipP_refs (show h∈(jJ (zipP ps.toList args (zipT 0 ds)) s).refs from hh) with e|⟨s',e⟩
  ·exact hrf h (by simp[e])
  exact hrf h (List.mem_append_right _ (refs_zipT ds 0 s' h e))
 have hlK:=hK _ _ h0
 have keepρ:∀ {G':Gh},G.keeps G' hl->G'.ρ hl=G.ρ hl:=by
  rintro G' (e|⟨e,_⟩)
  ·exact e
  rw[k1] at e;cases e
 rw[<-hus0] at hy
 refine⟨_,_,assign,body,hy,roundIn_of_wpIn (F:=Fence.wide) trivial ?_⟩
 refine hA (G.ρ hl).map G _ w _ I0 z3 ?_
 rintro e s' G1 a1 w1 ⟨rfl,hs'⟩ I1 Sn1 hn1 hd1
 obtain⟨G1',I1',Sn1'⟩:=hs' I1
 have Sn:=Sn1.trans Sn1'
 obtain⟨_,k4,k5⟩:=I1'.ms _ _ h1
 have e1:=keepρ (Sn.keeps hl _ hlK h0).1
 rw[e1] at k4 k5
 refine⟨_,run_beginRound k5 Z,?_⟩
 obtain⟨I2,Sn2⟩:=I1'.turnObj (K:=nb) (o':=recG (G1'.ρ hl) .busy false) h1 (.inl ⟨rfl,rfl⟩)
 rw[e1] at I2 Sn2
 refine hB (G.ρ hl).map G1' a1 _ _ I2 hn1 ?_
 rintro e s2 G2 a2 w3 ⟨rfl,hs2⟩ I3 Sn3 hn3 hd3
 obtain⟨G2',I3',Sn3'⟩:=hs2 I3
 have SnB:=((Sn.trans Sn2).trans Sn3).trans Sn3'
 have hlb:qr ((hl,MO.lrec .busy false)::out) hl=some (.lrec .busy false):=by rw[qy,WK rfl]
 obtain⟨_,k6,k7⟩:=I3'.ms _ _ hlb
 have e2:=keepρ (SnB.keeps hl _ hlK h0).1
 rw[e2] at k6 k7
 have hend:=run_endRound (P:=P) (bif b then none else some Code.ret) k7
 obtain⟨I4,Sn4⟩:=I3'.turnObj (K:=nb) (o':=recG (G2'.ρ hl) (bif b then .ready else .done) (!b)) hlb (.inl ⟨rfl,rfl⟩)
 rw[e2] at I4 Sn4
 have hself:∀ (m:MO) (l:Na),qr ((hl,m)::l) hl=some m:=fun m l=>by rw[qy,WK rfl]
 have hskip:∀ (m m':MO) (h:Nat) (o:MO),h≠hl->qr out h=some o->qr ((hl,m)::(hl,m')::out) h=some o:=fun m m' h o e e2=>by
  grind [qy]
 have fin:∃ G'',Stepped G w (qr l0) (lit (.bool b)) ((hl,.lrec (bif b then .ready else .done) (!b))::out) G'' (w3.putObj (G.ρ hl).map (recG (G.ρ hl) (bif b then .ready else .done) (!b))) (.bool b):=by
  refine Since.close (K:=nb) M I4 (SnB.trans Sn4) hK (by simp[qt,qI,lit,isLit]) (fun h o hm=>?_) (fun h o ho=>?_) (by simp[DV.refs,lit]) (fun k o hk h hh=>?_)
  ·rcases zF.1 hm with e|hm
   ·cases e
    exact hself (.lrec (bif b then .ready else .done) (!b)) ((hl,.lrec .busy false)::out)
   exact hskip _ _ h o (hne _ hm) (hnd h o hm)
  ·have:=zr.1 hold _ (jl ho)
   obtain⟨o',ho'⟩:=kj.1 this
   have:=jl ho'
   grind
  rcases zF.1 hk with e|hk
  ·cases e;simp[MO.refs] at hh
  have hk':qr ((hl,MO.gone)::out) k=some o:=by rw[qy,WJ (fun e=>hne _ hk e.symm)];exact hnd k o hk
  obtain⟨o',ho'⟩:=ko hcl k o hk' h hh
  have:=jl ho'
  grind
 obtain⟨G'',S⟩:=fin
 cases b with
 | true=>exact⟨_,_,hend,_,rfl,G'',S⟩
 | false=>exact⟨_,_,hend,_,rfl,G'',S⟩
theorem mks_one {a:Act} {w w':World} {G':Gh} {r:Nat} (h:w.heap.size<=r) (h2:G'.γ r=none) (h3:w'.heap[r]? =some (.deferred (some []))):Mks a w G' { a with defers:=[mkD r]++a.defers } w':=
 ⟨[r],rfl,by simp,fun x hx=>by rw[zg.1 hx];exact⟨h,h2,h3⟩⟩
theorem T.range {g:Operand} {ps:Array Tmp} {assign body:Code} {s:St} {Q:Exit->St->Prop} {f:FuncId} {first caps ds:List DV} {hl:Nat} {val:DV} {out:Na} {st:LoopState} (pe:Bool)
  (he:∀ args w,(callFunc f args).run P w=.ok (.enter f args) w) (hg:tgtX (ev1 s g)=some (f,first,caps)) (hl0:qr s.ms hl=none)
  (hdl:ds.length=n) (hds:∀ i,i<n->ds.getD i .dead=jJ s.tm i\/ds.getD i .dead=.dead)
  (H:qA P f (first++[.yld hl ps assign body ds]++caps) (qr ((hl,.lrec .ready false)::s.ms)) val ((hl,.lrec st pe)::out))
  (hst:st≠.busy) (hout:∀ p∈out,p.1≠hl) (hq:Q (bif pe then .ret else .normal) ⟨s.tm,(hl,.gone)::(out++s.ms)⟩):T P n nb (.rangeFunc g ps assign body) s Q:=by
 intro G a w R I hn hK
 refine wpIn_rangeFunc (F:=Fence.wide) ?_
 intro fn _
 obtain⟨vx,vy,ef,g1,g2⟩:=tgtX_sound hg (Zq I g)
 obtain⟨us,hus⟩:∃ us,us=a.tmps.toList:=⟨_,rfl⟩
 have husl:us.length=n:=by rw[hus];simpa using hn
 obtain⟨B,hB⟩:∃ B:Base,B={ map:=w.heap.size+1,us:=us,fn:=fn,dn:=w.heap.size,ps:=ps,asg:=assign,bd:=body }:=⟨_,rfl⟩
 obtain⟨rc,hrc⟩:∃ rc,rc=recG B .ready false:=⟨_,rfl⟩
 obtain⟨W1,hW1⟩:∃ W1,W1=w.alloc (.deferred (some [])):=⟨_,rfl⟩
 have hs1:W1.heap.size=w.heap.size+1:=by rw[hW1];simp
 have S1:Stepped G w (qr s.ms) .dead [] G W1 undef:=by
  rw[hW1]
  exact kT I.ctxS Z Z Z ao (fun b hb=>by first|exact heap_alloc_old w _ b hb|exact heap_alloc_old w _ hb) aB rfl
 obtain⟨I1,Sn1⟩:=I.eff (K:=nb) S1 none ao
 have I1:Inv G s.vw a W1:=I1
 have hD1:W1.heap[w.heap.size]? =some (.deferred (some [])):=by rw[hW1];exact World.alloc_heap_new w _
 have gD1:G.γ w.heap.size=none:=by
  cases hq:G.γ w.heap.size with
  | none=>rfl
  | some h=>have:=I.fresh _ _ hq;omega
 have hBm:B.map=W1.heap.size:=by rw[hB,hs1]
 have hBa:B.arr=false:=by rw[hB]
 have hBu:B.us=us:=by rw[hB]
 obtain⟨W2,hW2⟩:∃ W2,W2=W1.alloc rc:=⟨_,rfl⟩
 have S2:Stepped G W1 (qr s.ms) .dead [(hl,.lrec .ready false)] (G.new hl B W1.heap.size) W2 undef:=by
  rw[hW2]
  refine j2 (B:=B) I1.fresh hl0 aB ?_ ak am
  simp only[qW]
  exact⟨by simp[Gh.new,hBa],by simp[Gh.new,hBm],by simp only[Gh.new,ql];rw[hBm,hrc];exact heap_alloc_new W1 _⟩
 obtain⟨I2,Sn2⟩:=I1.eff (K:=nb) S2 none ao
 obtain⟨G2,hG2⟩:∃ G2,G2=G.new hl B W1.heap.size:=⟨_,rfl⟩
 rw[<-hG2] at I2 Sn2 S2
 have I2:Inv G2 (St.vw ⟨s.tm,(hl,.lrec .ready false)::s.ms⟩) a W2:=I2
 have Sn2:Since nb (qr s.ms) G W1 (qr ((hl,.lrec .ready false)::s.ms)) G2 W2:=Sn2
 have hρ:G2.ρ hl=B:=by rw[hG2];simp[Gh.new]
 have hlr:qr ((hl,MO.lrec .ready false)::s.ms) hl=some (.lrec .ready false):=by rw[qy,WK rfl]
 have L2:=Sn2.later.rd
 have hR2:(G.rd w).Le (G2.rd W2):=(Sn1.trans Sn2).later.rd
 have hk2:∀ h,(∃ o,qr s.ms h=some o)->G.keeps G2 h:=by
  rintro h ⟨o,ho⟩
  exact .inl (by rw[hG2];simp only[Gh.new];rw[WJ (by rintro rfl;rw[hl0] at ho;cases ho)])
 have tr:∀ (d:DV) (v:Value),(∀ h∈d.refs,∃ o,qr s.ms h=some o)->qt G (G.rd w) d v->qt G2 (G2.rd W2) d v:=fun d v hr h=>qt.mono hR2 d v (fun k hk=>hk2 k (hr k hk)) h
 have hgr:∀ h∈(ev1 s g).refs,∃ o,qr s.ms h=some o:=ev1_refs I g
 have hcl:∀ h,(h∈DV.qL first\/h∈DV.qL caps)->h∈(ev1 s g).refs:=by
  intro h hh
  have hp:∀ ps:List PV,DV.qL (ps.map .pv)=[]:=by
   intro ps
   induction ps with
   | nil=>rfl
   | cons p ps ih=>simp only[zy,DV.qL,DV.refs,zU];exact ih
  revert hg
  generalize ev1 s g=d
  intro hg
  unfold tgtX at hg
  grind [DV.refs]
 have trs:∀ (l:List DV) (vs:List Value),(∀ h∈DV.qL l,∃ o,qr s.ms h=some o)->qz G (G.rd w) l vs->qz G2 (G2.rd W2) l vs:=fun l vs hr h=>qz.mono hR2 l vs (fun k hk=>hk2 k (hr k hk)) h
 have hy:qt G2 (G2.rd W2) (.yld hl ps assign body ds) (.func (.yield W1.heap.size) #[] #[]):=by
  simp only[qt]
  refine⟨by rw[hρ];exact hBa,by rw[hρ,hBm],by rw[hρ,hB];exact⟨rfl,rfl,rfl⟩,?_⟩
  rw[hρ,hBu]
  have hall:∀ (l:List DV) (vs:List Value),l.length=vs.length->(∀ i,qt G2 (G2.rd W2) (l.getD i .dead) (vs.getD i undef))->qz G2 (G2.rd W2) l vs:=by
   intro l
   induction l with
   | nil=>intro vs h _;simp only[qz];exact zK h.symm
   | cons d l ih=>
    intro vs h hi
    cases vs with
    | nil=>simp at h
    | cons v vs=>
     simp only[qz]
     exact⟨v,vs,rfl,by simpa using hi 0,ih vs ai (fun i=>by simpa using hi (i+1))⟩
  refine hall ds us aa (fun i=>?_)
  by_cases hin:i<n
  ·rcases hds i hin with e|e
   ·rw[e]
    have:=I.ts i
    have e3:us.getD i undef=a.tmps.getD i undef:=by rw[hus];simp[zC,ze]
    rw[e3]
    exact tr _ _ (fun h hh=>I.refsT i h hh) this
   rw[e];simp only[qt]
  grind [qt]
 have hv:qz G2 (G2.rd W2) (first++[.yld hl ps assign body ds]++caps) (vx++ #[Value.func (.yield W1.heap.size) #[] #[]]++vy).toList:=by
  simp only[Xk]
  refine ((trs _ _ (fun h hh=>hgr h (hcl h (.inl hh))) g1).append ?_).append (trs _ _ (fun h hh=>hgr h (hcl h (.inr hh))) g2)
  simp only[qz]
  grind
 have hcall:=H.call G2 W2 _ I2.mem hv
 refine⟨w.heap.size+1,[mkD w.heap.size],W2,{ target:=.fn (.func f) vy,args:=vx++ #[Value.func (.yield (w.heap.size+1)) #[] #[]] },W2,f,vx++ #[Value.func (.yield (w.heap.size+1)) #[] #[]]++vy,W2,?_,?_,fun _ _=>trivial,?_,(fun hh=>by simp[Fence.wide] at hh),?_⟩
 ·have:=run_enterLoop_outer (P:=P) (w:=w) fn a.tmps ps assign body
  rw[hW2,hW1,hrc]
  simp only[recG,hB,hus,Ww]
  exact this
 ·simp only[resolve,ef,Deferred.ofValue,qq]
  simp
  rfl
 ·simp only[invoke]
  exact he _ _
 rw[hs1] at hcall
 rcases hcall with ⟨_,hc⟩|⟨r,w',hrun,_⟩
 rotate_left
 ·rw[he] at hrun;cases hrun
 refine callsIn_wide.2 (Calls.mono hc ?_)
 rintro e w3 ⟨r,rfl,G3,S3⟩
 obtain⟨I3,Sn3⟩:=I2.eff (s:=⟨s.tm,(hl,.lrec .ready false)::s.ms⟩) (K:=nb) S3 none ao
 have I3:Inv G3 (St.vw ⟨s.tm,((hl,.lrec st pe)::out)++(hl,.lrec .ready false)::s.ms⟩) a w3:=I3
 have Sn3:Since nb (qr ((hl,.lrec .ready false)::s.ms)) G2 W2 (qr (((hl,.lrec st pe)::out)++(hl,.lrec .ready false)::s.ms)) G3 w3:=Sn3
 have hl3:qr (((hl,MO.lrec st pe)::out)++(hl,.lrec .ready false)::s.ms) hl=some (.lrec st pe):=by rw[zQ,qy,WK rfl]
 obtain⟨k1,k2,k3⟩:=I3.ms _ _ hl3
 have hρ3:G3.ρ hl=G2.ρ hl:=by
  rcases S3.keeps hl _ hlr with e|⟨e,_⟩
  ·exact e
  rw[hρ,hBa] at e;cases e
 obtain⟨I4,Sn4⟩:=I3.turnObj (K:=nb) (st':=st) (pe':=false) (o':=.loop { state:=.exhausted,pending:=(bif pe then some .ret else none),fn,tmps:=us.toArray,params:=ps,assign,body,defers:=w.heap.size }) hl3 (.inr rfl)
 rw[hρ3,hρ] at k2 k3 I4 Sn4
 rw[hBm,hs1] at k2 k3 I4 Sn4
 simp only[hB] at k3
 refine⟨_,_,run_endLoop k3 hst,?_⟩
 have hlook:∀ k,qr ((hl,MO.gone)::(out++s.ms)) k=qr ((hl,.gone)::(((hl,.lrec st pe)::out)++(hl,.lrec .ready false)::s.ms)) k:=by grind [qy,lookM_append]
 have I5:=(I4.look hlook).act (a':={ a with defers:=[mkD w.heap.size]++a.defers }) rfl
 have Sn5:=((Sn1.trans Sn2).trans Sn3).trans Sn4
 rw[<-funext hlook] at Sn5
 have L:=((Sn2.trans Sn3).trans Sn4).later
 obtain⟨c1,c2⟩:=L.cold w.heap.size aa gD1
 have M5:=mks_one (a:=a) (w:=w) (zB _) c2 (c1.trans hD1)
 cases pe with
 | false=>exact hK _ _ _ _ _ hq I5 Sn5 hn M5
 | true=>exact wpIn_ret (hK _ _ _ _ _ hq I5 Sn5 hn M5)
theorem TK.range {g:Operand} {ps:Array Tmp} {assign body:Code} {s:St} {Q:Exit->St->Prop} {K:List Fr} {f:FuncId} {first caps ds:List DV} {hl:Nat} {val:DV} {out:Na} {st:LoopState} (pe:Bool)
  (he:∀ args w,(callFunc f args).run P w=.ok (.enter f args) w) (hg:tgtX (ev1 s g)=some (f,first,caps)) (hl0:qr s.ms hl=none)
  (hdl:ds.length=n) (hds:∀ i,i<n->ds.getD i .dead=jJ s.tm i\/ds.getD i .dead=.dead)
  (H:qA P f (first++[.yld hl ps assign body ds]++caps) (qr ((hl,.lrec .ready false)::s.ms)) val ((hl,.lrec st pe)::out))
  (hst:st≠.busy) (hout:∀ p∈out,p.1≠hl) (hq:PK P n nb Q K (bif pe then .ret else .normal) ⟨s.tm,(hl,.gone)::(out++s.ms)⟩):TK P n nb Q (.rangeFunc g ps assign body) K s:=
 T.range pe he hg hl0 hdl hds H hst hout hq
end
section
variable {P:Program} {Y:Tab} [qH P Y] {nb:Nat} {s:St} {dst:Option Tmp} {ty u:TypeId} {pos:String} {af:Array Edge} {gd:Option (Nat×Bool)} {t:TypeId} {x y z:Operand}
theorem B.loadEA {α:Type} {enc:α->List PV} {l:List α} {z0:α} {h v sz n k:Nat} {T:TypeId} (hx:ev1 s x=.eref h v n 0) (hm:qr s.ms h=some (.arr v sz T (l.map enc))) (ha:aggT Y t=some true) (hs:szT Y t=some k)
  (hlt:n<l.length) (hz:(enc (l.getD n z0)).length=k):Body P Y nb s ⟨dst,.load t x,ty,pos,af,gd⟩ (.pv (.agg (enc (l.getD n z0)))) [] [h]:=by
 refine .inr (jS.of fun σ G a w hv hl I=>?_)
 have hX:=hv x aS
 rw[hx] at hX
 have hlk:qr σ.ms h=some (.arr v sz T (l.map enc)):=by grind
 have hg:(l.map enc).getD n []=enc (l.getD n z0):=by grind
 have hq:Z4 Y t (qr σ.ms) (.eref h v n 0)=some (true,.pv (.agg (enc (l.getD n z0)))):=by
  unfold Z4
  grind
 obtain⟨r,h1,h2⟩:=Z8 (P:=P) I.ctxS.sees hq hX
 refine⟨r,w,G,.inl ?_,qD I.ctxS h2 (fun k hk=>by simp[DV.refs] at hk)⟩
 simp only[execOp,qp,h1,qo,qq]
end
section
variable {P:Program} {Y:Tab} [qH P Y] {n nb:Nat} {ops:Array Oper} {s:St} {Q:Exit->St->Prop} {K:List Fr} {c:Code}
theorem T.nilM [Fc] {id d1 d2:Nat} {x:Operand} {t u ty1 ty2 e:TypeId} {p1 p2:String} {af1 af2:Array Edge} {es:List (List PV)}
  (hops:ops.toList=[⟨some d1,.move x,ty1,p1,af1,none⟩,⟨some d2,.binOp .eql t (.tmp d1) (.const (.slice none 0 0)) u,ty2,p2,af2,none⟩]) (hda:jh n (.region id ops false)=true)
  (hx:ev1 s x=.pv (.slice es)) (und:Y.underlying t=some (.slice e))
  (hT:es=[]->Q .normal ⟨(d2,lit (.bool true))::(d1,.pv (.slice es))::s.tm,s.ms⟩)
  (hF:Q .normal ⟨(d2,lit (.bool false))::(d1,.pv (.slice es))::s.tm,s.ms⟩):T P n nb (.region id ops false) s Q:=by
 intro G a w R I hn hK
 simp only[jh,zj] at hda
 have hda1:=hda.1
 rw[hops] at hda1
 simp only[Kh,List.all_nil,Kb,zj] at hda1
 obtain⟨hd1,hd2⟩:=hda1
 have hsz:ops.size=2:=by rw[<-qf,hops];rfl
 have hi0:ops[0]? =some ⟨some d1,.move x,ty1,p1,af1,none⟩:=by rw[<-qe,hops];rfl
 have hi1:ops[1]? =some ⟨some d2,.binOp .eql t (.tmp d1) (.const (.slice none 0 0)) u,ty2,p2,af2,none⟩:=by rw[<-qe,hops];rfl
 have hX:=Zq I x
 rw[hx] at hX
 have hX0:=hX
 simp only[qt,qI] at hX
 obtain⟨ad,cap,hv,hcap,hel⟩:=hX
 refine wpIn_region ?_
 rw[hsz,show List.range 2=[0,1] from rfl]
 simp only[wpOpsIn,hi0]
 rw[WK (show Region.wanted (⟨some d1,.move x,ty1,p1,af1,none⟩:Oper) (yielded ops a.tmps)=true from rfl)]
 refine wpR_of ?_ ao _
 have ex0:(execOp a.eval ⟨some d1,.move x,ty1,p1,af1,none⟩).run P w=.ok (.value (a.eval x)) w:=by simp only[execOp,qq]
 unfold Oper.wp
 rw[ex0]
 show wpOpsIn fcF 0 P ops R [1] (a.put (some d1) (a.eval x)) w
 obtain⟨I1,Sn1⟩:=I.eff (K:=nb) (qD I.ctxS (val:=.pv (.slice es)) (r:=a.eval x) hX0 (fun k hk=>by simp[DV.refs] at hk)) (some d1) (dstOk_lt hd1 hn)
 simp only[wpOpsIn,hi1]
 rw[WK (show Region.wanted (⟨some d2,.binOp .eql t (.tmp d1) (.const (.slice none 0 0)) u,ty2,p2,af2,none⟩:Oper) (yielded ops (a.put (some d1) (a.eval x)).tmps)=true from rfl)]
 refine wpR_of ?_ ao _
 have hlt:d1<a.tmps.size:=dstOk_lt hd1 hn d1 rfl
 have hev:(a.put (some d1) (a.eval x)).eval (.tmp d1)=a.eval x:=by
  show (a.put (some d1) (a.eval x)).tmps.getD d1 undef=_
  rw[Act.put_getD];simp[hlt]
 have hnil:(a.put (some d1) (a.eval x)).eval (.const (.slice none 0 0))=.slice none 0 0:=rfl
 have hq:=run_equal_slice_nil (P:=P) w t e ad es.length cap (qH.und P und)
 have ex1:(execOp (a.put (some d1) (a.eval x)).eval ⟨some d2,.binOp .eql t (.tmp d1) (.const (.slice none 0 0)) u,ty2,p2,af2,none⟩).run P w=.ok (.value (.bool ad.isNone)) w:=by simp only[execOp,hev.trans hv,hnil,eqGuard_at_slice,binOp,qp,qq,qo,hq]
 unfold Oper.wp
 rw[ex1]
 show wpOpsIn fcF 0 P ops R [] ((a.put (some d1) (a.eval x)).put (some d2) (.bool ad.isNone)) w
 obtain⟨I2,Sn2⟩:=I1.eff (K:=nb) (qD I1.ctxS (val:=lit (.bool ad.isNone)) (r:=.bool ad.isNone) (qG rfl) (fun k hk=>by simp[DV.refs,lit] at hk)) (some d2) (dstOk_lt hd2 aP)
 have hsz2:((a.put (some d1) (a.eval x)).put (some d2) (.bool ad.isNone)).tmps.size=n:=by rw[Act.Zn,Act.Zn];exact hn
 have hdf:((a.put (some d1) (a.eval x)).put (some d2) (.bool ad.isNone)).defers=a.defers:=rfl
 cases had:ad with
 | none=>
  have hes:es=[]:=by grind
  rw[had] at I2 Sn2 hsz2
  exact hK _ _ _ _ _ (hT hes) I2 (Sn1.trans Sn2) hsz2 (Mks.of Z)
 | some b=>
  rw[had] at I2 Sn2 hsz2
  exact hK _ _ _ _ _ hF I2 (Sn1.trans Sn2) hsz2 (Mks.of Z)
theorem TK.nilM [Fc] {id d1 d2:Nat} {x:Operand} {t u ty1 ty2 e:TypeId} {p1 p2:String} {af1 af2:Array Edge} {es:List (List PV)}
  (hops:ops.toList=[⟨some d1,.move x,ty1,p1,af1,none⟩,⟨some d2,.binOp .eql t (.tmp d1) (.const (.slice none 0 0)) u,ty2,p2,af2,none⟩]) (hda:jh n (.region id ops false)=true)
  (hx:ev1 s x=.pv (.slice es)) (und:Y.underlying t=some (.slice e))
  (hT:es=[]->PK P n nb Q K .normal ⟨(d2,lit (.bool true))::(d1,.pv (.slice es))::s.tm,s.ms⟩)
  (hF:PK P n nb Q K .normal ⟨(d2,lit (.bool false))::(d1,.pv (.slice es))::s.tm,s.ms⟩):TK P n nb Q (.region id ops false) K s:=T.nilM (Y:=Y) hops hda hx und hT hF
end
end Go.Lens
end
section
namespace Go.Lens
variable [Lz]
section
variable {P:Program} {Y:Tab} [qH P Y] {nb:Nat} {s:St} {dst:Option Tmp} {ty u:TypeId} {pos:String} {af:Array Edge} {gd:Option (Nat×Bool)} {t:TypeId} {x y:Operand}
theorem allLt {l:Na} {n:Nat} (h:l.all (fun p=>Nat.blt p.1 n)=true):∀ h o,qr l h=some o->h<n:=fun k o e=>by
 have:=zr.1 h _ (jl e);simpa using this
theorem allNe {l:Na} {n:Nat} (h:l.all (fun p=>!Nat.beq p.1 n)=true):∀ p∈l,p.1≠n:=fun p hp e=>by
 have:=zr.1 h _ hp
 rw[e] at this;simp at this
noncomputable def ndM:Na->Bool
 | []=>true
 | p::l=>!jH l p.1&&ndM l
theorem ndM_ok:∀ {l:Na},ndM l=true->∀ h o,(h,o)∈l->qr l h=some o
 | [],_,h,o,hm=>by cases hm
 | p::l,hd,h,o,hm=>by
  simp only[ndM,zj,XP] at hd
  rw[qy]
  rcases zF.1 hm with e|e
  ·cases e;rw[WK rfl]
  have h2:=ndM_ok hd.2 h o e
  by_cases hq:p.1=h
  ·have:jH l p.1=true:=kj.2 ⟨o,by rw[hq];exact h2⟩
   rw[hd.1] at this;cases this
  rw[WJ hq];exact h2
def AgD (tm:List (Nat×DV)):Nat->List DV->Prop
 | _,[]=>True
 | k,.dead::ds=>AgD tm (k+1) ds
 | k,d::ds=>jJ tm k=d/\AgD tm (k+1) ds
theorem agD_ok {tm:List (Nat×DV)}:∀ {ds:List DV} {k:Nat},AgD tm k ds->∀ i,ds.getD i .dead=jJ tm (k+i)\/ds.getD i .dead=.dead
 | [],k,_,i=>.inr ao
 | d::ds,k,h,i=>by
  have hc:(d=.dead\/jJ tm k=d)/\AgD tm (k+1) ds:=by cases d<;>first|exact⟨.inl Z,h⟩|exact⟨.inr h.1,h.2⟩
  cases i with
  | zero=>
   rcases hc.1 with e|e
   ·exact .inr (by simpa using e)
   exact .inl (by simpa using e.symm)
  | succ i=>
   have:=agD_ok hc.2 i
   rw[show k+(i+1)=k+1+i by omega]
   simpa using this
end
def rfOf:Code->Option (Array Tmp×Code×Code)
 | .seq a b=>match rfOf a with
  | some r=>some r
  | none=>rfOf b
 | .block _ a=>rfOf a
 | .rangeFunc _ ps a b=>some (ps,a,b)
 | _=>none
end Go.Lens
namespace Go.Lens
variable [Lz]
theorem Stepped.perm {G:Gh} {w:World} {look:Nat->Option MO} {val:DV} {ms ms':Na} {G':Gh} {w':World} {r:Value} (h:ms'.Perm ms) (S:Stepped G w look val ms G' w' r):Stepped G w look val ms' G' w' r:=by
 have hn:∀ k,k∈ms'.map (·.1)↔k∈ms.map (·.1):=fun k=>(h.map _).mem_iff
 exact⟨S.later,S.hval,fun k o hk=>S.hms k o (h.mem_iff.1 hk),S.keeps,fun k hk=>S.old k (fun e=>hk ((hn k).2 e)),S.fresh,fun b k hk=>(S.own b k hk).imp (fun e=>(hn k).2 e) id,fun k hk=>(S.refs k hk).imp (fun e=>(hn k).2 e) id,
  fun k o hk j hj=>(S.refsM k o (h.mem_iff.1 hk) j hj).imp (fun e=>(hn j).2 e) id,S.newb,S.r0,S.r0m⟩
theorem qA.rev {P:Program} {f:FuncId} {ds:List DV} {look:Nat->Option MO} {val:DV} {l:Na} (h:qA P f ds look val l.reverse):qA P f ds look val l:=
 ⟨h.refs,fun G w vs M hv=>(h.call G w vs M hv).mono fun r w' ⟨G',S⟩=>⟨G',S.perm (List.reverse_perm l).symm⟩⟩
theorem agD0 {tm:List (Nat×DV)} {ds:List DV} (h:AgD tm 0 ds) (i:Nat):ds.getD i .dead=jJ tm i\/ds.getD i .dead=.dead:=by
 have:=agD_ok h i
 rwa [KT] at this
end Go.Lens
end
section
namespace Go.Lens
section
variable {α:Type}
def hfN (n:Nat) (k:Nat->α):α:=match n with
 | 0=>k 0
 | m+1=>k (m+1)
def hfNs (l:List Nat) (k:List Nat->α):α:=match l with
 | []=>k []
 | n::l=>hfN n fun n=>hfNs l fun l=>k (n::l)
def hfZ (n:Int) (k:Int->α):α:=match n with
 | .ofNat n=>hfN n fun n=>k (.ofNat n)
 | .negSucc n=>hfN n fun n=>k (.negSucc n)
def hfBs (l:Nb) (k:Nb->α):α:=match l with
 | []=>k []
 | b::l=>hfN b.toNat fun n=>hfBs l fun l=>k (UInt8.ofNat n::l)
def hfL (v:Value) (k:Value->α):α:=match v with
 | .int t x=>hfZ x fun x=>k (.int t x)
 | .string b=>hfBs b.data.toList fun l=>k (.string ⟨⟨l⟩⟩)
 | .bool b=>(match b with
  | true=>k (.bool true)
  | false=>k (.bool false))
 | v=>k v
mutual
def hfP (b c:Bool) (p:PV) (k:PV->α):α:=match p with
 | .agg cs=>hfPs b c cs fun cs=>k (.agg cs)
 | .box cs=>hfPs b c cs fun cs=>k (.box cs)
 | .lit v=>(match c with
  | true=>hfL v fun v=>k (.lit v)
  | false=>k (.lit v))
 | .slice es=>(match c with
  | true=>hfQs es fun es=>k (.slice es)
  | false=>k (.slice es))
 | .fn f a e=>hfPs b c a fun a=>hfPs b c e fun e=>k (.fn f a e)
 | .iface t v=>k (.iface t v)
 | .map ks vs=>k (.map ks vs)
 | .any=>k .any
def hfPs (b c:Bool) (l:List PV) (k:List PV->α):α:=match l with
 | []=>k []
 | p::l=>match b with
  | true=>hfP true c p fun p=>hfPs true c l fun l=>k (p::l)
  | false=>hfPs false c l fun l=>k (p::l)
def hfQs (l:List (List PV)) (k:List (List PV)->α):α:=match l with
 | []=>k []
 | p::l=>hfPs true true p fun p=>hfQs l fun l=>k (p::l)
end
mutual
def hfV (b c:Bool) (d:DV) (k:DV->α):α:=match d with
 | .pv p=>match b with
  | true=>hfP true c p fun p=>k (.pv p)
  | false=>k (.pv p)
 | .dead=>k .dead
 | .nils=>k .nils
 | .gd g d=>hfV b c d fun d=>k (.gd g d)
 | .bref h e=>hfN h fun h=>hfN e fun e=>k (.bref h e)
 | .aref h v=>hfN h fun h=>k (.aref h v)
 | .atrunc h v n=>hfN h fun h=>k (.atrunc h v n)
 | .eref h v i e=>hfN h fun h=>k (.eref h v i e)
 | .awin h v o n=>hfN h fun h=>k (.awin h v o n)
 | .mref h=>hfN h fun h=>k (.mref h)
 | .agg ds=>hfVs b c ds fun ds=>k (.agg ds)
 | .tup ds=>hfVs b c ds fun ds=>k (.tup ds)
 | .clos f a e=>hfVs b c a fun a=>hfVs b c e fun e=>k (.clos f a e)
 | .yld h ps asg bd ds=>hfN h fun h=>hfVs b c ds fun ds=>k (.yld h ps asg bd ds)
def hfVs (b c:Bool) (l:List DV) (k:List DV->α):α:=match l with
 | []=>k []
 | p::l=>hfV b c p fun p=>hfVs b c l fun l=>k (p::l)
end
def hfR (q:Rat) (k:Rat->α):α:=hfZ q.num fun n=>hfN q.den fun d=>k (mkRat n d)
def hfPo (l:List ((Int×Int)×Rat)) (k:List ((Int×Int)×Rat)->α):α:=match l with
 | []=>k []
 | p::l=>hfZ p.1.1 fun i=>hfZ p.1.2 fun j=>hfR p.2 fun q=>hfPo l fun l=>k (((i,j),q)::l)
def hfM (b c:Bool) (o:MO) (k:MO->α):α:=match o with
 | .box T ds=>hfVs b c ds fun ds=>k (.box T ds)
 | .arr v z T es=>(match c with
  | true=>hfN v fun v=>hfQs es fun es=>k (.arr v z T es)
  | false=>k (.arr v z T es))
 | .farr v es=>(match c with
  | true=>hfN v fun v=>hfQs es fun es=>k (.farr v es)
  | false=>k (.farr v es))
 | .fbox cs=>(match c with
  | true=>hfPs true true cs fun cs=>k (.fbox cs)
  | false=>k (.fbox cs))
 | .kdat P=>(match c with
  | true=>hfPo P fun P=>k (.kdat P)
  | false=>k (.kdat P))
 | o=>k o
def hfMs (b c:Bool) (m ms:Na) (k:Na->α):α:=match m with
 | []=>k ms
 | (h,o)::m=>hfN h fun h=>hfM b c o fun o=>hfMs b c m ms fun l=>k ((h,o)::l)
def hfSp {β:Type} (m:List β) (k:List β->α):α:=match m with
 | []=>k []
 | o::m=>hfSp m fun l=>k (o::l)
theorem kE (n:Nat) (k:Nat->α):hfN n k=k n:=by cases n<;>rfl
theorem hfNs_eq:∀ (l:List Nat) (k:List Nat->α),hfNs l k=k l
 | [],_=>rfl
 | n::l,k=>by rw[hfNs,kE,hfNs_eq l]
theorem hfZ_eq (n:Int) (k:Int->α):hfZ n k=k n:=by cases n<;>rw[hfZ,kE]
theorem hfBs_eq:∀ (l:Nb) (k:Nb->α),hfBs l k=k l
 | [],_=>rfl
 | n::l,k=>by rw[hfBs,kE,hfBs_eq l,X4]
theorem hfL_eq (v:Value) (k:Value->α):hfL v k=k v:=by
 unfold hfL
 split
 ·rw[hfZ_eq]
 ·rw[hfBs_eq]
 ·split<;>rfl
 rfl
mutual
theorem hfP_eq (b c:Bool):∀ (p:PV) (k:PV->α),hfP b c p k=k p
 | .agg cs,k=>by rw[hfP,hfPs_eq b c cs]
 | .box cs,k=>by rw[hfP,hfPs_eq b c cs]
 | .lit v,k=>by
  cases c
  ·rw[hfP]
  rw[hfP,hfL_eq]
 | .slice es,k=>by
  cases c
  ·rw[hfP]
  rw[hfP,hfQs_eq es]
 | .fn f a e,k=>by rw[hfP,hfPs_eq b c a,hfPs_eq b c e]
 | .iface t v,k=>by rw[hfP]
 | .map ks vs,k=>by rw[hfP]
 | .any,k=>by rw[hfP]
theorem hfPs_eq (b c:Bool):∀ (l:List PV) (k:List PV->α),hfPs b c l k=k l
 | [],k=>by rw[hfPs]
 | p::l,k=>by
  cases b
  ·rw[hfPs,hfPs_eq false c l]
  rw[hfPs,hfP_eq true c p,hfPs_eq true c l]
theorem hfQs_eq:∀ (l:List (List PV)) (k:List (List PV)->α),hfQs l k=k l
 | [],k=>by rw[hfQs]
 | p::l,k=>by rw[hfQs,hfPs_eq true true p,hfQs_eq l]
end
mutual
theorem hfV_eq (b c:Bool):∀ (d:DV) (k:DV->α),hfV b c d k=k d
 | .pv p,k=>by
  cases b
  ·rw[hfV]
  rw[hfV,hfP_eq]
 | .dead,k=>by rw[hfV]
 | .nils,k=>by rw[hfV]
 | .gd g d,k=>by rw[hfV,hfV_eq b c d]
 | .bref h c,k=>by rw[hfV,kE,kE]
 | .aref h v,k=>by rw[hfV,kE]
 | .atrunc h v n,k=>by rw[hfV,kE]
 | .eref h v i c,k=>by rw[hfV,kE]
 | .awin h v o n,k=>by rw[hfV,kE]
 | .mref h,k=>by rw[hfV,kE]
 | .agg ds,k=>by rw[hfV,hfVs_eq b c ds]
 | .tup ds,k=>by rw[hfV,hfVs_eq b c ds]
 | .yld h ps asg bd ds,k=>by rw[hfV,kE,hfVs_eq b c ds]
 | .clos f a e,k=>by rw[hfV,hfVs_eq b c a,hfVs_eq b c e]
theorem hfVs_eq (b c:Bool):∀ (l:List DV) (k:List DV->α),hfVs b c l k=k l
 | [],k=>by rw[hfVs]
 | p::l,k=>by rw[hfVs,hfV_eq b c p,hfVs_eq b c l]
end
theorem hfR_eq (q:Rat) (k:Rat->α):hfR q k=k q:=by rw[hfR,hfZ_eq,kE,Rat.mkRat_self]
theorem hfPo_eq:∀ (l:List ((Int×Int)×Rat)) (k:List ((Int×Int)×Rat)->α),hfPo l k=k l
 | [],_=>rfl
 | p::l,k=>by rw[hfPo,hfZ_eq,hfZ_eq,hfR_eq,hfPo_eq l]
theorem hfM_eq (b c:Bool) (o:MO) (k:MO->α):hfM b c o k=k o:=by
 unfold hfM
 split
 ·rw[hfVs_eq]
 ·split
  ·rw[kE,hfQs_eq]
  rfl
 ·split
  ·rw[kE,hfQs_eq]
  rfl
 ·split
  ·rw[hfPs_eq]
  rfl
 ·split
  ·rw[hfPo_eq]
  rfl
 rfl
theorem hfMs_eq (b c:Bool):∀ (m ms:Na) (k:Na->α),hfMs b c m ms k=k (m++ms)
 | [],_,_=>rfl
 | (h,o)::m,ms,k=>by rw[hfMs,kE,hfM_eq,hfMs_eq b c m];rfl
theorem hfSp_eq {β:Type}:∀ (m:List β) (k:List β->α),hfSp m k=k m
 | [],_=>rfl
 | o::m,k=>by rw[hfSp,hfSp_eq m]
def hfSt (s:St) (k:St->α):α:=hfSp s.tm fun tm=>hfSp s.ms fun ms=>k ⟨tm,ms⟩
theorem hfSt_eq (s:St) (k:St->α):hfSt s k=k s:=by rw[hfSt,hfSp_eq,hfSp_eq]
def hfE (s:St) (d:Option Tmp) (v:DV) (m:Na) (rd:List Nat) (k:St->Ef->α):α:=
 hfV true true v fun v=>hfMs true true m [] fun m=>hfNs rd fun rd=>hfMs false false m s.ms fun ms=>match d with
  | some t=>hfN t fun t=>k ⟨(t,v)::s.tm,ms⟩ ⟨some t,v,m,rd⟩
  | none=>k ⟨s.tm,ms⟩ ⟨none,v,m,rd⟩
theorem hfE_eq (s:St) (d:Option Tmp) (v:DV) (m:Na) (rd:List Nat) (k:St->Ef->α):hfE s d v m rd k=k (stp s ⟨d,v,m,rd⟩) ⟨d,v,m,rd⟩:=by
 rw[hfE,hfV_eq,hfMs_eq,hfNs_eq,hfMs_eq,zR]
 cases d with
 | none=>rfl
 | some t=>simp only[kE];rfl
end
end Go.Lens
end
section
namespace Go.Lens.Tb
open Go.Proofs
abbrev pI (x:Int):PV:=.lit (.int .i64 x)
abbrev pB (x:Bool):PV:=.lit (.bool x)
abbrev pS (x:ByteArray):PV:=.lit (.string x)
abbrev pL {α:Type} (f:α->List PV) (l:List α):PV:=.slice (List.map f l)
abbrev vI (x:Int):DV:=.pv (.lit (.int .i64 x))
abbrev WM (x:Int):DV:=.pv (.lit (.int .u64 x))
abbrev vB (x:Bool):DV:=.pv (.lit (.bool x))
abbrev vS (x:ByteArray):DV:=.pv (.lit (.string x))
abbrev vL {α:Type} (f:α->List PV) (l:List α):DV:=.pv (.slice (List.map f l))
theorem RO [Lz] {P:Program} {Y:Tab} [qH P Y] {nb:Nat} {ops:Array Oper} {s:St} {dst:Option Tmp} {op:Op} {ty:TypeId} {pos:String} {af:Array Edge} {dr:Bool} {os:List Oper} {acc:List Ef} {Q:St->Prop} {val:DV} {m:Na} {rd:List Nat}
    (h:Body P Y nb s ⟨dst,op,ty,pos,af,none⟩ val m rd) (k:RG P Y nb ops dr os (stp s ⟨dst,val,m,rd⟩) (acc++[⟨dst,val,m,rd⟩]) Q):RG P Y nb ops dr (⟨dst,op,ty,pos,af,none⟩::os) s acc Q:=
  RG.cons (EfR.on Z h) k
theorem agT {tm:List (Nat×DV)}:∀ {l:List (Nat×DV)},l.map (fun p=>jJ tm p.1)=l.map (fun p=>p.2)->AgT tm l
  | [],_=>trivial
  | p::l,h=>by
    simp only[zy,Jz] at h
    exact⟨h.1,agT h.2⟩
theorem agM {ms:Na}:∀ {l:Na},l.map (fun p=>qr ms p.1)=l.map (fun p=>some p.2)->AgM ms l
  | [],_=>trivial
  | p::l,h=>by
    simp only[zy,Jz] at h
    exact⟨h.1,agM h.2⟩
theorem sb [Lz] {nb:Nat} {s S:St} (h1:S.tm.map (fun p=>jJ s.tm p.1)=S.tm.map (fun p=>p.2)) (h2:S.ms.map (fun p=>qr s.ms p.1)=S.ms.map (fun p=>some p.2))
    (h3:(q7 S.ms&&S.tm.all (fun p=>p.2.refs.all (jH S.ms))&&s.ms.all (fun p=>Nat.ble nb p.1||jH S.ms p.1))=true):Sub nb s S:=⟨agT h1,agM h2,h3⟩
section
variable [Lz] [Fc] {P:Program} {n nb:Nat} {Q:Exit->St->Prop} {K:List Fr} {s:St} {x y:Code} {id:Nat}
theorem a1 (h:TK P n nb Q x K s):PK P n nb Q (.seq x::K) .normal s:=PK.seq h
theorem a2 (h:PK P n nb Q K .normal s):PK P n nb Q (.blk id::K) .normal s:=PK.blk h
theorem a3 (h:TK P n nb Q x (.seq y::K) s):TK P n nb Q (.seq x y) K s:=TK.seq h
theorem a4 (h:TK P n nb Q x (.blk id::K) s):TK P n nb Q (.block id x) K s:=TK.block h
theorem a5 (h:PK P n nb Q K .normal s):TK P n nb Q .skip K s:=TK.skip h
end
inductive Cf [Lz] where
 | t (x:Code) (K:List Fr)
 | p (K:List Fr)
def adv [Lz]:Nat->Cf->Cf
 | 0,c=>c
 | k+1,.p K=>match K with
  | .seq x::K=>adv k (.t x K)
  | .blk _::K=>adv k (.p K)
  | K=>.p K
 | k+1,.t x K=>match x with
  | .seq x y=>adv k (.t x (.seq y::K))
  | .block i x=>adv k (.t x (.blk i::K))
  | .skip=>adv k (.p K)
  | x=>.t x K
def CK [Lz] [Fc] (P:Program) (n nb:Nat) (Q:Exit->St->Prop) (s:St):Cf->Prop
 | .t x K=>TK P n nb Q x K s
 | .p K=>PK P n nb Q K .normal s
theorem adv_ok [Lz] [Fc] {P:Program} {n nb:Nat} {Q:Exit->St->Prop} {s:St}:∀ {k:Nat} {c:Cf},CK P n nb Q s (adv k c)->CK P n nb Q s c
 | 0,_,h=>h
 | k+1,.p K,h=>by
  unfold adv at h
  split at h
  ·rename_i x K
   show PK P n nb Q (.seq x::K) .normal s
   exact PK.seq (adv_ok (c:=.t x K) h)
  ·rename_i i K
   show PK P n nb Q (.blk i::K) .normal s
   exact PK.blk (adv_ok (c:=.p K) h)
  exact h
 | k+1,.t x K,h=>by
  unfold adv at h
  split at h
  ·rename_i x y
   show TK P n nb Q (.seq x y) K s
   exact TK.seq (adv_ok (c:=.t x (.seq y::K)) h)
  ·rename_i i x
   show TK P n nb Q (.block i x) K s
   exact TK.block (adv_ok (c:=.t x (.blk i::K)) h)
  ·show TK P n nb Q .skip K s
   exact TK.skip (adv_ok (c:=.p K) h)
  exact h
theorem Ap [Lz] [Fc] {P:Program} {n nb:Nat} {Q:Exit->St->Prop} {s:St} {y:Code} {K M:List Fr} (e:adv 40 (.p K)=.t y M) (h:TK P n nb Q y M s):PK P n nb Q K .normal s:=adv_ok (c:=.p K) (k:=40) aV
section
variable [Lz] {P:Program} {Y:Tab} [qH P Y] {nb:Nat} {ops:Array Oper} {s:St} {dst:Option Tmp} {ty:TypeId} {pos:String} {af:Array Edge} {dr:Bool} {os:List Oper} {acc:List Ef} {Q:St->Prop}
theorem ag {x:Operand} {p:PV} (h:ev1 s x=.pv p) (k:RG P Y nb ops dr os (stp s ⟨dst,.pv p,[],[]⟩) (acc++[⟨dst,.pv p,[],[]⟩]) Q):RG P Y nb ops dr (⟨dst,.assign x,ty,pos,af,none⟩::os) s acc Q:=RO (B.assign h) k
end
theorem nB {a b:Nat} (h:Nat.ble a b=true):a<=b:=zW h
instance iTab [Lz]:qH prog tab:=tab_ok
section
variable [Lz]
theorem cO {f:FuncId} {F:FnI} {c:Code} {ds:List DV} {val:DV} (q:QF f F) (hb:F.body=some c) (hl:ds.length<=F.n) (hr:DV.qL ds=[]) (h:TK prog F.n 1 (Post tab F 1 val) c [] ⟨zipT 0 ds,[]⟩):qA prog f ds (qr []) val []:=by
  obtain⟨fn,f1,f2,f3,f4,_,f6⟩:=q
  exact callOk_of (Y:=tab) (F:=F) f1 (f2.trans hb) f3 f4 f6 hl hr h
section
variable {P:Program} {Y:Tab} [qH P Y] {nb:Nat} {ops:Array Oper} {s:St} {dr:Bool} {o:Oper} {os:List Oper} {acc:List Ef} {Q:St->Prop} {val:DV} {m:Na} {rd:List Nat}
theorem RS {c:Bool} (hg:gcond ops s o.guard=some c) (h:c=true->Body P Y nb s o val [] rd) (hr:refsIn s o val=true) (k:RG P Y nb ops dr os (stp s ⟨o.dst,.gd c val,[],rd⟩) (acc++[⟨o.dst,.gd c val,[],rd⟩]) Q):RG P Y nb ops dr (o::os) s acc Q:=RG.cons (EfR.sym hg h hr) k
theorem RT (hg:gcond ops s o.guard=some true) (h:Body P Y nb s o val m rd) (k:RG P Y nb ops dr os (stp s ⟨o.dst,val,m,rd⟩) (acc++[⟨o.dst,val,m,rd⟩]) Q):RG P Y nb ops dr (o::os) s acc Q:=RG.cons (EfR.on hg h) k
theorem RF (hg:gcond ops s o.guard=some false) (k:RG P Y nb ops dr os (stp s ⟨o.dst,.gd false (lit (.bool false)),[],[]⟩) (acc++[⟨o.dst,.gd false (lit (.bool false)),[],[]⟩]) Q):RG P Y nb ops dr (o::os) s acc Q:=RG.cons (EfR.off hg) k
end
section
variable [Fc] {n nb:Nat} {Q:Exit->St->Prop} {K M:List Fr} {x y:Code} {id:Nat} {ops:Array Oper} {dr:Bool} {s:St} {P:Program} {Y:Tab} [qH P Y] {ops':Array Oper} {acc:List Ef}
theorem lf (h:Q .ret s):TK P n nb Q .ret K s:=TK.ret (PK.ret h)
theorem tn (S:St) (h1:S.tm.map (fun p=>jJ s.tm p.1)=S.tm.map (fun p=>p.2)) (h2:S.ms.map (fun p=>qr s.ms p.1)=S.ms.map (fun p=>some p.2)) (h3:(q7 S.ms&&S.tm.all (fun p=>p.2.refs.all (jH S.ms))&&s.ms.all (fun p=>Nat.ble nb p.1||jH S.ms p.1))=true) (k:TK P n nb Q x K S):TK P n nb Q x K s:=TK.norm S (sb h1 h2 h3) k
end
end
structure Tgt where
  name:ByteArray
  bright:Int
  place:Int
  length:Int
  from_:Int
  to:Int
  limit:Int
instance:Inhabited Tgt:=⟨⟨⟨#[]⟩,0,0,0,0,0,0⟩⟩
abbrev eI (n:Int):List PV:=[.lit (.int .i64 n)]
abbrev eT (t:Tgt):List PV:=[.lit (.string t.name),.lit (.int .i64 t.bright),.lit (.int .i64 t.place),.lit (.int .i64 t.length),.lit (.int .i64 t.from_),.lit (.int .i64 t.to),.lit (.int .i64 t.limit)]
def outF (n low high:Int):Bool:=decide (n<low)||decide (high<n)
def j5 (b:Bool) (e:Int):Int:=bif b then e else 0
def ja (n low high:Int):Int:=j5 (outF n low high) 3
def qK:List Int->Int
  | []=>0
  | e::l=>if e=0 then qK l else e
theorem bif_or (a b:Bool):(bif a then true else b)=(a||b):=by cases a<;>rfl
theorem drop_at {α:Type} (l:List α) (k:Nat) (z:α) (h:k<l.length):l.drop k=l.getD k z::l.drop (k+1):=by
  rw[QB h,ze,zm h];rfl
theorem li {k:IntKind} {a b:Int} (h:a=b):(DV.pv (.lit (.int k a)))=.pv (.lit (.int k b)):=by rw[h]
theorem lb {a b:Bool} (h:a=b):(DV.pv (.lit (.bool a)))=.pv (.lit (.bool b)):=by rw[h]
theorem ls {a b:ByteArray} (h:a=b):(DV.pv (.lit (.string a)))=.pv (.lit (.string b)):=by rw[h]
theorem lsl {α:Type} {enc:α->List PV} {a b:List α} (h:a=b):(DV.pv (.slice (List.map enc a)))=.pv (.slice (List.map enc b)):=by rw[h]
theorem ZF {a b c d:DV} (h:a=b) (k:c=d):DV.tup [a,c]=.tup [b,d]:=by rw[h,k]
theorem tup3 {a b c d e f:DV} (h:a=b) (k:c=d) (m:e=f):DV.tup [a,c,e]=.tup [b,d,f]:=by rw[h,k,m]
section
variable [Lz]
section
variable {P:Program} {Y:Tab} {nb:Nat} {s:St} {dst:Option Tmp} {ty:TypeId} {pos:String} {af:Array Edge} {gd:Option (Nat×Bool)} {c x y:Operand} {x' y' sx sy:Bool}
theorem B.pkT (hc:ev1 s c=lit (.bool true)) (hrx:(evS s x).refs=[]) (hry:(evS s y).refs=[]) (hx:gdBool (ev1 s x)=some (true,x')) (hy:gdBool (ev1 s y)=some (sy,y')):Body P Y nb s ⟨dst,.pick c x y,ty,pos,af,gd⟩ (lit (.bool x')) [] []:=B.pick hc hrx hry hx hy rfl
theorem B.pkF (hc:ev1 s c=lit (.bool false)) (hrx:(evS s x).refs=[]) (hry:(evS s y).refs=[]) (hx:gdBool (ev1 s x)=some (sx,x')) (hy:gdBool (ev1 s y)=some (true,y')):Body P Y nb s ⟨dst,.pick c x y,ty,pos,af,gd⟩ (lit (.bool y')) [] []:=B.pick hc hrx hry hx hy rfl
end
def nilM:MO->Bool
 | .box _ ds=>ds.any fun d=>match d with| .nils=>true|_=>false
 | _=>false
def cmpQ (op:BinOp) (a b:Int):Option Bool:=match op with
 | .lss=>some (decide (a<b))
 | .leq=>some (decide (a<=b))
 | .gtr=>some (decide (b<a))
 | .geq=>some (decide (b<=a))
 | .eql=>some (decide (a=b))
 | .neq=>some (decide (a≠b))
 | _=>none
def isSl:Operand->Bool
 | .const (.slice _ _ _)=>true
 | _=>false
noncomputable def effQ (nb:Nat) (s:St) (o:Oper):Option (DV×Na×List Nat):=
 match o.guard with
 | some _=>none
 | none=>match o.op with
  | .move x=>match ev1 s x with
   | .pv p=>some (.pv p,[],[])
   | .nils=>none
   | _=>bodyX tab nb s o
  | .assign x=>match ev1 s x with
   | .pv p=>some (.pv p,[],[])
   | .nils=>none
   | _=>bodyX tab nb s o
  | .unOp .not _ x=>match ev1 s x with
   | .pv (.lit (.bool b))=>some (lit (.bool (!b)),[],[])
   | _=>none
  | .binOp op _ x y _=>match isSl y with
   | true=>none
   | false=>match ev1 s x with
   | .pv (.lit (.int k a))=>match ev1 s y with
    | .pv (.lit (.int k' b))=>bif decide (k=k') then match cmpQ op a b with
      | some c=>some (lit (.bool c),[],[])
      | none=>none
     else none
    | _=>none
   | _=>none
  | .load t x=>match ev1 s x with
   | .pv (.box (p::cs))=>match aggT tab t with
    | some false=>match szT tab t with
     | some _=>some (.pv p,[],[])
     | none=>none
    | some true=>match szT tab t with
     | some n=>bif Nat.ble n (p::cs).length then some (.pv (.agg ((p::cs).take n)),[],[]) else none
     | none=>none
    | none=>none
   | .bref _ _=>bodyX tab nb s o
   | _=>none
  | .store _ a v=>match ev1 s a with
   | .bref _ _=>match ev1 s v with
    | .aref _ _=>none
    | _=>bodyX tab nb s o
   | _=>none
  | .fieldAddr _ _ _=>bodyX tab nb s o
  | .field _ _ _=>bodyX tab nb s o
  | .extract _ _=>bodyX tab nb s o
  | .nilCheck _=>bodyX tab nb s o
  | .makeFunc _ _ _=>bodyX tab nb s o
  | .alloc _=>match bodyX tab nb s o with
   | some (v,m,rd)=>bif m.any (fun p=>nilM p.2) then none else some (v,m,rd)
   | none=>none
  | .box _ _=>match bodyX tab nb s o with
   | some (v,m,rd)=>bif m.any (fun p=>nilM p.2) then none else some (v,m,rd)
   | none=>none
  | _=>none
theorem effQ_ok {nb:Nat} {s:St} {o:Oper} {v:DV} {m:Na} {rd:List Nat} (h:effQ nb s o=some (v,m,rd)):Body prog tab nb s o v m rd/\o.guard=none:=by
 obtain⟨dst,op,ty,pos,af,gd⟩:=o
 cases gd with
 | some g=>cases h
 | none=>
 refine⟨?_,rfl⟩
 unfold effQ at h
 cases op with
 | move x=>
  simp only at h
  split at h
  ·rename_i p hp;cases h;exact B.move hp
  ·cases h
  exact B.run h
 | assign x=>
  simp only at h
  split at h
  ·rename_i p hp;cases h;exact B.assign hp
  ·cases h
  exact B.run h
 | unOp u t x=>
  cases u<;>simp only at h<;>try cases h
  split at h
  ·rename_i b hb;cases h;exact B.not hb
  cases h
 | binOp op t x y u=>
  simp only at h
  cases hsl:isSl y with
  | true=>rw[hsl] at h;cases h
  | false=>
  rw[hsl] at h
  simp only at h
  split at h
  ·rename_i k a ha
   split at h
   ·rename_i k' b hb
    cases hk:decide (k=k') with
    | false=>rw[hk] at h;cases h
    | true=>
     rw[hk] at h
     have:=X6 hk
     subst this
     simp only[Wy] at h
     split at h
     ·rename_i c hc
      cases h
      unfold cmpQ at hc
      split at hc<;>cases hc
      ·exact B.lss ha hb
      ·exact B.leq ha hb
      ·exact B.gtr ha hb
      ·exact B.geq ha hb
      ·exact B.eql ha hb
      exact B.neq ha hb
     cases h
   cases h
  cases h
 | load t x=>
  simp only at h
  split at h
  ·rename_i p cs hp
   split at h
   ·rename_i ha
    split at h
    ·rename_i n hn;cases h;exact B.loadP hp ha hn
    cases h
   ·rename_i ha
    split at h
    ·rename_i n hn
     cases hb:Nat.ble n (p::cs).length with
     | false=>rw[hb] at h;cases h
     | true=>rw[hb] at h;cases h;exact B.loadA hp ha hn (nB hb) rfl
    cases h
   cases h
  ·exact B.run h
  cases h
 | store t a v=>
  simp only at h
  split at h
  ·split at h
   ·cases h
   exact B.run h
  cases h
 | fieldAddr t x f=>exact B.run h
 | field t x f=>exact B.run h
 | extract x f=>exact B.run h
 | nilCheck x=>exact B.run h
 | makeFunc f a c=>exact B.run h
 | alloc t=>
  simp only at h
  split at h
  ·rename_i v' m' rd' hb
   cases hn:m'.any (fun p=>nilM p.2) with
   | true=>rw[hn] at h;cases h
   | false=>rw[hn] at h;cases h;exact B.run hb
  cases h
 | box t x=>
  simp only at h
  split at h
  ·rename_i v' m' rd' hb
   cases hn:m'.any (fun p=>nilM p.2) with
   | true=>rw[hn] at h;cases h
   | false=>rw[hn] at h;cases h;exact B.run hb
  cases h
 | _=>cases h
def dpO:Op->Bool
 | .build _ _=>true
 | _=>false
inductive Cg where
 | t (x:Code) (K:List Fr) (tm:List (Nat×DV)) (ms:Na)
 | p (K:List Fr) (tm:List (Nat×DV)) (ms:Na)
 | r (ops:Array Oper) (dr:Bool) (os:List Oper) (tm:List (Nat×DV)) (ms:Na) (acc:List Ef) (K:List Fr)
def CG [Fc] (n nb:Nat) (Q:Exit->St->Prop):Cg->Prop
 | .t x K tm ms=>TK prog n nb Q x K ⟨tm,ms⟩
 | .p K tm ms=>PK prog n nb Q K .normal ⟨tm,ms⟩
 | .r ops dr os tm ms acc K=>RG prog tab nb ops dr os ⟨tm,ms⟩ acc (PK prog n nb Q K .normal)
def nt (dr:Bool) (acc:List Ef) (e:Ef):List Ef:=match dr with
 | true=>acc++[e]
 | false=>[]
theorem RG.acc {nb:Nat} {ops:Array Oper} {os:List Oper} {s:St} {acc acc':List Ef} {Q:St->Prop} (h:RG prog tab nb ops false os s acc Q):RG prog tab nb ops false os s acc' Q:=by
 obtain⟨es,h1,_,h3⟩:=h
 exact⟨es,h1,fun h=>(by cases h),h3⟩
theorem RG.nt {nb:Nat} {ops:Array Oper} {dr:Bool} {os:List Oper} {s:St} {acc:List Ef} {e:Ef} {Q:St->Prop} (h:RG prog tab nb ops dr os s (nt dr acc e) Q):RG prog tab nb ops dr os s (acc++[e]) Q:=by
 cases dr
 ·exact RG.acc h
 exact h
def fD {α:Type} (tm:List (Nat×DV)) (dst:Option Tmp) (v:DV) (k:List (Nat×DV)->α):α:=match dst with
 | some t=>hfN t fun t=>k ((t,v)::tm)
 | none=>k tm
theorem fD_eq {α:Type} (tm:List (Nat×DV)) (dst:Option Tmp) (v:DV) (k:List (Nat×DV)->α):fD tm dst v k=k (putT tm dst v):=by
 cases dst with
 | none=>rfl
 | some t=>rw[fD,kE];rfl
def nx (ops:Array Oper) (dr:Bool) (os:List Oper) (tm:List (Nat×DV)) (dst:Option Tmp) (v:DV) (m ms:Na) (rd:List Nat) (acc:List Ef) (K:List Fr):Cg:=
 hfV false false v fun v=>hfMs false false m ms fun ms=>fD tm dst v fun tm=>.r ops dr os tm ms (nt dr acc ⟨dst,v,m,rd⟩) K
theorem nx_ok [Fc] {n nb:Nat} {Q:Exit->St->Prop} {ops:Array Oper} {dr:Bool} {os:List Oper} {tm:List (Nat×DV)} {dst:Option Tmp} {v:DV} {m ms:Na} {rd:List Nat} {acc:List Ef} {K:List Fr} (h:CG n nb Q (nx ops dr os tm dst v m ms rd acc K)) :
  RG prog tab nb ops dr os (stp ⟨tm,ms⟩ ⟨dst,v,m,rd⟩) (acc++[⟨dst,v,m,rd⟩]) (PK prog n nb Q K .normal):=by
 unfold nx at h
 rw[hfV_eq,hfMs_eq,fD_eq] at h
 exact RG.nt h
noncomputable def go (n nb stop:Nat):Nat->Cg->Cg
 | 0,c=>c
 | k+1,.p K tm ms=>match K with
  | .seq x::K=>go n nb stop k (.t x K tm ms)
  | .blk _::K=>go n nb stop k (.p K tm ms)
  | K=>.p K tm ms
 | k+1,.t x K tm ms=>match x with
  | .seq x y=>go n nb stop k (.t x (.seq y::K) tm ms)
  | .block i x=>go n nb stop k (.t x (.blk i::K) tm ms)
  | .skip=>go n nb stop k (.p K tm ms)
  | .exit i=>match cutK i K with
   | some K'=>go n nb stop k (.p K' tm ms)
   | none=>.t (.exit i) K tm ms
  | .region id ops dr=>bif Nat.beq id stop then .t (.region id ops dr) K tm ms else bif jh n (.region id ops dr) then go n nb stop k (.r ops dr ops.toList tm ms [] K) else .t (.region id ops dr) K tm ms
  | x=>.t x K tm ms
 | k+1,.r ops dr os tm ms acc K=>match os with
  | []=>match dr with
   | true=>.r ops true [] tm ms acc K
   | false=>go n nb stop k (.p K tm ms)
  | o::os=>match effQ nb ⟨tm,ms⟩ o with
   | some (v,m,rd)=>hfV (dpO o.op) false v fun v=>hfMs (dpO o.op) false m ms fun ms'=>match dr with
    | false=>fD tm o.dst v fun tm=>go n nb stop k (.r ops false os tm ms' [] K)
    | true=>hfMs (dpO o.op) false m [] fun m=>hfNs rd fun rd=>fD tm o.dst v fun tm=>go n nb stop k (.r ops true os tm ms' (acc++[⟨o.dst,v,m,rd⟩]) K)
   | none=>.r ops dr (o::os) tm ms acc K
theorem go_ok [Fc] {n nb stop:Nat} {Q:Exit->St->Prop}:∀ {k:Nat} {c:Cg},CG n nb Q (go n nb stop k c)->CG n nb Q c
 | 0,_,h=>h
 | k+1,.p K tm ms,h=>by
  unfold go at h
  split at h
  ·rename_i x K
   show PK prog n nb Q (.seq x::K) .normal ⟨tm,ms⟩
   exact PK.seq (go_ok (c:=.t x K tm ms) h)
  ·rename_i i K
   show PK prog n nb Q (.blk i::K) .normal ⟨tm,ms⟩
   exact PK.blk (go_ok (c:=.p K tm ms) h)
  exact h
 | k+1,.t x K tm ms,h=>by
  unfold go at h
  split at h
  ·rename_i x y;exact TK.seq (go_ok (c:=.t x (.seq y::K) tm ms) h)
  ·rename_i i x;exact TK.block (go_ok (c:=.t x (.blk i::K) tm ms) h)
  ·exact TK.skip (go_ok (c:=.p K tm ms) h)
  ·rename_i i
   split at h
   ·rename_i K' hk;exact TK.exit (PK.exit hk (go_ok (c:=.p K' tm ms) h))
   exact h
  ·rename_i id ops dr
   cases h1:Nat.beq id stop with
   | true=>rw[h1] at h;exact h
   | false=>
    rw[h1] at h
    cases h2:jh n (.region id ops dr) with
    | false=>rw[h2] at h;exact h
    | true=>
     rw[h2] at h
     haveI:=tab_ok
     exact TK.rg (Y:=tab) mixed h2 (go_ok (c:=.r ops dr ops.toList tm ms [] K) h)
  exact h
 | k+1,.r ops dr os tm ms acc K,h=>by
  unfold go at h
  split at h
  ·split at h
   ·exact h
   exact RG.nil (fun h=>by cases h) (go_ok (c:=.p K tm ms) h)
  rename_i o os
  split at h
  ·rename_i v m rd he
   obtain⟨h1,h2⟩:=effQ_ok he
   rw[hfV_eq,hfMs_eq] at h
   have k2:RG prog tab nb ops dr os (stp ⟨tm,ms⟩ ⟨o.dst,v,m,rd⟩) (acc++[⟨o.dst,v,m,rd⟩]) (PK prog n nb Q K .normal):=by
    cases dr with
    | false=>
     simp only[fD_eq] at h
     exact RG.acc (go_ok (c:=.r ops false os (putT tm o.dst v) (m++ms) [] K) h)
    | true=>
     simp only[hfMs_eq,hfNs_eq,fD_eq,zR] at h
     exact go_ok (c:=.r ops true os (putT tm o.dst v) (m++ms) (acc++[⟨o.dst,v,m,rd⟩]) K) h
   exact RG.cons (EfR.on (by rw[h2];rfl) h1) k2
  exact h
section
variable [Fc] {n nb:Nat} {Q:Exit->St->Prop} {K:List Fr} {x y:Code} {id:Nat} {ops:Array Oper} {dr:Bool} {tm:List (Nat×DV)} {ms:Na} {os:List Oper} {acc:List Ef} {c:Cg} {val:DV} {m:Na} {rd:List Nat}
 {dst:Option Tmp} {op:Op} {ty:TypeId} {pos:String} {af:Array Edge} {o:Oper}
abbrev gN:Nat:=400
theorem E (e:go n nb 9999 gN c=.r ops dr (⟨dst,op,ty,pos,af,none⟩::os) tm ms acc K) (h:Body prog tab nb ⟨tm,ms⟩ ⟨dst,op,ty,pos,af,none⟩ val m rd) (k:CG n nb Q (nx ops dr os tm dst val m ms rd acc K)):CG n nb Q c:=
 go_ok (k:=gN) (by rw[e];exact RO h (nx_ok k))
theorem C {f:Operand} {args:Array Operand} {ats:Array TypeId} {fid:FuncId} {first caps ds:List DV} (e:go n nb 9999 gN c=.r ops dr (⟨dst,.call ⟨.value f,args,ats⟩,ty,pos,af,none⟩::os) tm ms acc K) (H:qA prog fid ds (qr []) val [])
  (hf:tgtX (ev1 ⟨tm,ms⟩ f)=some (fid,first,caps)) (hds:first++args.toList.map (ev1 ⟨tm,ms⟩)++caps=ds) (hr:DV.qL ds=[]) (k:CG n nb Q (nx ops dr os tm dst val [] ms [] acc K)):CG n nb Q c:=E e (B.call H hf hds hr) k
theorem Eg {b:Bool} (e:go n nb 9999 gN c=.r ops dr (o::os) tm ms acc K) (hg:gcond ops ⟨tm,ms⟩ o.guard=some b) (h:b=true->Body prog tab nb ⟨tm,ms⟩ o val [] rd) (hr:refsIn ⟨tm,ms⟩ o val=true) (k:CG n nb Q (nx ops dr os tm o.dst (.gd b val) [] ms rd acc K)):CG n nb Q c:=
 go_ok (k:=gN) (by rw[e];exact RS hg h hr (nx_ok k))
theorem Em {b:Bool} {x:Operand} {p:PV} {gd:Option (Nat×Bool)} (e:go n nb 9999 gN c=.r ops dr (⟨dst,.move x,ty,pos,af,gd⟩::os) tm ms acc K) (hg:gcond ops ⟨tm,ms⟩ gd=some b) (h:ev1 ⟨tm,ms⟩ x=.pv p) (hr:refsIn ⟨tm,ms⟩ ⟨dst,.move x,ty,pos,af,gd⟩ (.pv p)=true) (k:CG n nb Q (nx ops dr os tm dst (.gd b (.pv p)) [] ms [] acc K)):CG n nb Q c:=Eg e hg (fun _=>B.move h) hr k
theorem Et (e:go n nb 9999 gN c=.r ops dr (o::os) tm ms acc K) (hg:gcond ops ⟨tm,ms⟩ o.guard=some true) (h:Body prog tab nb ⟨tm,ms⟩ o val m rd) (k:CG n nb Q (nx ops dr os tm o.dst val m ms rd acc K)):CG n nb Q c:=
 go_ok (k:=gN) (by rw[e];exact RT hg h (nx_ok k))
theorem Ef' (e:go n nb 9999 gN c=.r ops dr (o::os) tm ms acc K) (hg:gcond ops ⟨tm,ms⟩ o.guard=some false) (k:CG n nb Q (nx ops dr os tm o.dst (.gd false (lit (.bool false))) [] ms [] acc K)):CG n nb Q c:=
 go_ok (k:=gN) (by rw[e];exact RF hg (nx_ok k))
theorem Dr (e:go n nb 9999 gN c=.r ops true [] tm ms acc K) (h:Zf ops 0 acc=true) (k:CG n nb Q (.p K tm ms)):CG n nb Q c:=
 go_ok (k:=gN) (by rw[e];exact RG.nil (fun _=>h) k)
theorem Cb {o:Operand} {b:Bool} (e:go n nb 9999 gN c=.t (.cond o x y) K tm ms) (hc:evS ⟨tm,ms⟩ o=lit (.bool b)) (hx:b=true->CG n nb Q (.t x K tm ms)) (hy:b=false->CG n nb Q (.t y K tm ms)):CG n nb Q c:=go_ok (k:=gN) (by rw[e];exact TK.cond hc hx hy)
theorem Cp {o:Operand} {p:Prop} [Decidable p] (e:go n nb 9999 gN c=.t (.cond o x y) K tm ms) (hc:evS ⟨tm,ms⟩ o=lit (.bool (decide p))) (hx:p->CG n nb Q (.t x K tm ms)) (hy:¬p->CG n nb Q (.t y K tm ms)):CG n nb Q c:=go_ok (k:=gN) (by rw[e];exact TK.condP hc hx hy)
theorem CT {o:Operand} (e:go n nb 9999 gN c=.t (.cond o x y) K tm ms) (hc:evS ⟨tm,ms⟩ o=lit (.bool true)) (hx:CG n nb Q (.t x K tm ms)):CG n nb Q c:=go_ok (k:=gN) (by rw[e];exact TK.condT hc hx)
theorem CF {o:Operand} (e:go n nb 9999 gN c=.t (.cond o x y) K tm ms) (hc:evS ⟨tm,ms⟩ o=lit (.bool false)) (hy:CG n nb Q (.t y K tm ms)):CG n nb Q c:=go_ok (k:=gN) (by rw[e];exact TK.condF hc hy)
theorem Rt (e:go n nb 9999 gN c=.t .ret K tm ms) (h:Q .ret ⟨tm,ms⟩):CG n nb Q c:=go_ok (k:=gN) (by rw[e];exact lf h)
theorem Rn (e:go n nb 9999 gN c=.p [] tm ms) (h:Q .normal ⟨tm,ms⟩):CG n nb Q c:=go_ok (k:=gN) aV
theorem tk (stop:Nat) (e:go n nb stop gN c=.t x K tm ms) (h:TK prog n nb Q x K ⟨tm,ms⟩):CG n nb Q c:=go_ok (k:=gN) (stop:=stop) aV
theorem pk {C:St->Prop} (e:go n nb 9999 gN c=.p (.lp C::K) tm ms) (h:C ⟨tm,ms⟩):CG n nb Q c:=go_ok (k:=gN) (by rw[e];exact (PK.lp (P:=prog) (n:=n) (nb:=nb) (Q:=Q) (K:=K) h))
theorem kc (h:CG n nb Q (.t x K tm ms)):TK prog n nb Q x K ⟨tm,ms⟩:=h
theorem ek (e:go n nb 9999 gN c=.r ops dr os tm ms acc K) (h:CG n nb Q (.r ops dr os tm ms acc K)):CG n nb Q c:=go_ok (k:=gN) aV
theorem pc (h:CG n nb Q (.p K tm ms)):PK prog n nb Q K .normal ⟨tm,ms⟩:=h
theorem rc (h:CG n nb Q (.r ops dr os tm ms acc K)):RG prog tab nb ops dr os ⟨tm,ms⟩ acc (PK prog n nb Q K .normal):=h
theorem Fz (stop t:Nat) {h v sz:Nat} {T0:TypeId} {es:List (List PV)} (e:go n nb stop gN c=.t x K tm ms) (ht:jJ tm t=.aref h v) (hm:qr ms h=some (.arr v sz T0 es)) (k:CG n nb Q (.t x K ((t,.pv (.slice es))::tm) ((h,.farr v es)::ms))):CG n nb Q c:=
 tk stop e (TK.frz (s:=⟨tm,ms⟩) ht hm k)
theorem Cj {x':Code} {M:List Fr} {o:Operand} {b:Bool} (S1:List (Nat×DV)) (S2:Na) (e:go n nb 9999 gN c=.t (.cond o x x') K tm ms) (hc:evS ⟨tm,ms⟩ o=lit (.bool b)) (e2:adv 40 (.p K)=.t y M)
  (hx:b=true->CG n nb Q (.t x (.lp (fun s'=>Sub nb s' ⟨S1,S2⟩)::K) tm ms)) (hy:b=false->CG n nb Q (.t x' (.lp (fun s'=>Sub nb s' ⟨S1,S2⟩)::K) tm ms)) (k:CG n nb Q (.t y M S1 S2)):CG n nb Q c:=by
 refine tk 9999 e ?_
 have conv:∀ e s',PK prog n nb Q (.lp (fun s'=>Sub nb s' ⟨S1,S2⟩)::K) e s'->PK prog n nb Q K e s':=by
  intro e1 s' h
  cases e1 with
  | normal=>
   have h':Sub nb s' ⟨S1,S2⟩:=h
   exact Ap e2 (TK.norm _ h' k)
  | _=>exact h
 exact TK.cond hc (fun h=>T.mono (hx h) conv) (fun h=>T.mono (hy h) conv)
def Q1 {α:Type} (nb:Nat) (T:α->List (Nat×DV)) (M:α->Na) (I:α->Prop) (m:α->Nat) (a1:α) (s:St):Prop:=∃ b1,I b1/\m b1<m a1/\Sub nb s ⟨T b1,M b1⟩
theorem l1 {α:Type} (T:α->List (Nat×DV)) (M:α->Na) (I:α->Prop) (m:α->Nat) (a1:α) (e:go n nb 9999 gN c=.t (.loop x) K tm ms) (h0:I a1) (hs:Sub nb ⟨tm,ms⟩ ⟨T a1,M a1⟩)
 (hb:∀ a1,I a1->CG n nb Q (.t x (.lp (Q1 nb T M I m a1)::K) (T a1) (M a1))):CG n nb Q c:=tk 9999 e (TK.loop (α:=α) (fun x=>⟨T x,M x⟩) (fun x=>I x) (fun x=>m x) a1 h0 hs (fun x hI=>by
  rw[show LP nb (fun x:α=>⟨T x,M x⟩) (fun x=>I x) (fun x=>m x) x=Q1 nb T M I m x from funext fun s=>propext ⟨fun ⟨b1,h⟩=>⟨b1,h⟩,fun ⟨b1,h⟩=>⟨b1,h⟩⟩]
  exact hb x hI))
theorem L1 {α:Type} {T:α->List (Nat×DV)} {M:α->Na} {I:α->Prop} {m:α->Nat} {a1:α} (b1:α) {s:St} (h1:I b1) (h2:m b1<m a1) (h3:Sub nb s ⟨T b1,M b1⟩):Q1 nb T M I m a1 s:=⟨b1,h1,h2,h3⟩
def Q2 {α β:Type} (nb:Nat) (T:α->β->List (Nat×DV)) (M:α->β->Na) (I:α->β->Prop) (m:α->β->Nat) (a1:α) (a2:β) (s:St):Prop:=∃ b1 b2,I b1 b2/\m b1 b2<m a1 a2/\Sub nb s ⟨T b1 b2,M b1 b2⟩
theorem l2 {α β:Type} (T:α->β->List (Nat×DV)) (M:α->β->Na) (I:α->β->Prop) (m:α->β->Nat) (a1:α) (a2:β) (e:go n nb 9999 gN c=.t (.loop x) K tm ms) (h0:I a1 a2) (hs:Sub nb ⟨tm,ms⟩ ⟨T a1 a2,M a1 a2⟩)
 (hb:∀ a1 a2,I a1 a2->CG n nb Q (.t x (.lp (Q2 nb T M I m a1 a2)::K) (T a1 a2) (M a1 a2))):CG n nb Q c:=tk 9999 e (TK.loop (α:=α×β) (fun x=>⟨T x.1 x.2,M x.1 x.2⟩) (fun x=>I x.1 x.2) (fun x=>m x.1 x.2) (a1,a2) h0 hs (fun x hI=>by
  rw[show LP nb (fun x:α×β=>⟨T x.1 x.2,M x.1 x.2⟩) (fun x=>I x.1 x.2) (fun x=>m x.1 x.2) x=Q2 nb T M I m x.1 x.2 from funext fun s=>propext ⟨fun ⟨⟨b1,b2⟩,h⟩=>⟨b1,b2,h⟩,fun ⟨b1,b2,h⟩=>⟨(b1,b2),h⟩⟩]
  exact hb x.1 x.2 hI))
theorem L2 {α β:Type} {T:α->β->List (Nat×DV)} {M:α->β->Na} {I:α->β->Prop} {m:α->β->Nat} {a1:α} {a2:β} (b1:α) (b2:β) {s:St} (h1:I b1 b2) (h2:m b1 b2<m a1 a2) (h3:Sub nb s ⟨T b1 b2,M b1 b2⟩):Q2 nb T M I m a1 a2 s:=⟨b1,b2,h1,h2,h3⟩
def Q3 {α β γ:Type} (nb:Nat) (T:α->β->γ->List (Nat×DV)) (M:α->β->γ->Na) (I:α->β->γ->Prop) (m:α->β->γ->Nat) (a1:α) (a2:β) (a3:γ) (s:St):Prop:=∃ b1 b2 b3,I b1 b2 b3/\m b1 b2 b3<m a1 a2 a3/\Sub nb s ⟨T b1 b2 b3,M b1 b2 b3⟩
theorem l3 {α β γ:Type} (T:α->β->γ->List (Nat×DV)) (M:α->β->γ->Na) (I:α->β->γ->Prop) (m:α->β->γ->Nat) (a1:α) (a2:β) (a3:γ) (e:go n nb 9999 gN c=.t (.loop x) K tm ms) (h0:I a1 a2 a3) (hs:Sub nb ⟨tm,ms⟩ ⟨T a1 a2 a3,M a1 a2 a3⟩)
 (hb:∀ a1 a2 a3,I a1 a2 a3->CG n nb Q (.t x (.lp (Q3 nb T M I m a1 a2 a3)::K) (T a1 a2 a3) (M a1 a2 a3))):CG n nb Q c:=tk 9999 e (TK.loop (α:=α×β×γ) (fun x=>⟨T x.1 x.2.1 x.2.2,M x.1 x.2.1 x.2.2⟩) (fun x=>I x.1 x.2.1 x.2.2) (fun x=>m x.1 x.2.1 x.2.2) (a1,a2,a3) h0 hs (fun x hI=>by
  rw[show LP nb (fun x:α×β×γ=>⟨T x.1 x.2.1 x.2.2,M x.1 x.2.1 x.2.2⟩) (fun x=>I x.1 x.2.1 x.2.2) (fun x=>m x.1 x.2.1 x.2.2) x=Q3 nb T M I m x.1 x.2.1 x.2.2 from funext fun s=>propext ⟨fun ⟨⟨b1,b2,b3⟩,h⟩=>⟨b1,b2,b3,h⟩,fun ⟨b1,b2,b3,h⟩=>⟨(b1,b2,b3),h⟩⟩]
  exact hb x.1 x.2.1 x.2.2 hI))
theorem L3 {α β γ:Type} {T:α->β->γ->List (Nat×DV)} {M:α->β->γ->Na} {I:α->β->γ->Prop} {m:α->β->γ->Nat} {a1:α} {a2:β} {a3:γ} (b1:α) (b2:β) (b3:γ) {s:St} (h1:I b1 b2 b3) (h2:m b1 b2 b3<m a1 a2 a3) (h3:Sub nb s ⟨T b1 b2 b3,M b1 b2 b3⟩):Q3 nb T M I m a1 a2 a3 s:=⟨b1,b2,b3,h1,h2,h3⟩
def Q4 {α β γ δ:Type} (nb:Nat) (T:α->β->γ->δ->List (Nat×DV)) (M:α->β->γ->δ->Na) (I:α->β->γ->δ->Prop) (m:α->β->γ->δ->Nat) (a1:α) (a2:β) (a3:γ) (a4:δ) (s:St):Prop:=∃ b1 b2 b3 b4,I b1 b2 b3 b4/\m b1 b2 b3 b4<m a1 a2 a3 a4/\Sub nb s ⟨T b1 b2 b3 b4,M b1 b2 b3 b4⟩
theorem l4 {α β γ δ:Type} (T:α->β->γ->δ->List (Nat×DV)) (M:α->β->γ->δ->Na) (I:α->β->γ->δ->Prop) (m:α->β->γ->δ->Nat) (a1:α) (a2:β) (a3:γ) (a4:δ) (e:go n nb 9999 gN c=.t (.loop x) K tm ms) (h0:I a1 a2 a3 a4) (hs:Sub nb ⟨tm,ms⟩ ⟨T a1 a2 a3 a4,M a1 a2 a3 a4⟩)
 (hb:∀ a1 a2 a3 a4,I a1 a2 a3 a4->CG n nb Q (.t x (.lp (Q4 nb T M I m a1 a2 a3 a4)::K) (T a1 a2 a3 a4) (M a1 a2 a3 a4))):CG n nb Q c:=tk 9999 e (TK.loop (α:=α×β×γ×δ) (fun x=>⟨T x.1 x.2.1 x.2.2.1 x.2.2.2,M x.1 x.2.1 x.2.2.1 x.2.2.2⟩) (fun x=>I x.1 x.2.1 x.2.2.1 x.2.2.2) (fun x=>m x.1 x.2.1 x.2.2.1 x.2.2.2) (a1,a2,a3,a4) h0 hs (fun x hI=>by
  rw[show LP nb (fun x:α×β×γ×δ=>⟨T x.1 x.2.1 x.2.2.1 x.2.2.2,M x.1 x.2.1 x.2.2.1 x.2.2.2⟩) (fun x=>I x.1 x.2.1 x.2.2.1 x.2.2.2) (fun x=>m x.1 x.2.1 x.2.2.1 x.2.2.2) x=Q4 nb T M I m x.1 x.2.1 x.2.2.1 x.2.2.2 from funext fun s=>propext ⟨fun ⟨⟨b1,b2,b3,b4⟩,h⟩=>⟨b1,b2,b3,b4,h⟩,fun ⟨b1,b2,b3,b4,h⟩=>⟨(b1,b2,b3,b4),h⟩⟩]
  exact hb x.1 x.2.1 x.2.2.1 x.2.2.2 hI))
theorem L4 {α β γ δ:Type} {T:α->β->γ->δ->List (Nat×DV)} {M:α->β->γ->δ->Na} {I:α->β->γ->δ->Prop} {m:α->β->γ->δ->Nat} {a1:α} {a2:β} {a3:γ} {a4:δ} (b1:α) (b2:β) (b3:γ) (b4:δ) {s:St} (h1:I b1 b2 b3 b4) (h2:m b1 b2 b3 b4<m a1 a2 a3 a4) (h3:Sub nb s ⟨T b1 b2 b3 b4,M b1 b2 b3 b4⟩):Q4 nb T M I m a1 a2 a3 a4 s:=⟨b1,b2,b3,b4,h1,h2,h3⟩
def Q5 {α β γ δ ε:Type} (nb:Nat) (T:α->β->γ->δ->ε->List (Nat×DV)) (M:α->β->γ->δ->ε->Na) (I:α->β->γ->δ->ε->Prop) (m:α->β->γ->δ->ε->Nat) (a1:α) (a2:β) (a3:γ) (a4:δ) (a5:ε) (s:St):Prop:=∃ b1 b2 b3 b4 b5,I b1 b2 b3 b4 b5/\m b1 b2 b3 b4 b5<m a1 a2 a3 a4 a5/\Sub nb s ⟨T b1 b2 b3 b4 b5,M b1 b2 b3 b4 b5⟩
end
theorem cG {f:FuncId} {F:FnI} {c:Code} {ds:List DV} {val:DV} (q:QF f F) (hb:F.body=some c) (hl:ds.length<=F.n) (hr:DV.qL ds=[]) (h:CG F.n 1 (Post tab F 1 val) (.t c [] (zipT 0 ds) [])):qA prog f ds (qr []) val []:=cO q hb hl hr h
theorem cL {f:FuncId} {F:FnI} {c:Code} (lo:Nat) (l:Na) {ds:List DV} {val:DV} {out:Na} (q:QF f F) (hb:F.body=some c) (hl:ds.length<=F.n) (hrf:(DV.qL ds).all (jH l)=true) (hnb:l.all (fun p=>Nat.blt p.1 lo)=true)
 (h:TK prog F.n lo (PostL tab F lo l val out) c [] ⟨zipT 0 ds,l⟩):qA prog f ds (qr l) val out:=by
 obtain⟨fn,f1,f2,f3,f4,_,f6⟩:=q
 exact callOk_ofL (Y:=tab) (F:=F) lo l f1 (f2.trans hb) f3 f4 f6 hl hrf hnb h
theorem leafE {Y:Tab} {F:FnI} {lo:Nat} {val:DV} {s:St} {val0:DV} (h:kY Y F lo [] s=some (val0,[])) (hv:val0=val):Post Y F lo val .normal s:=⟨.inl Z,val0,[],h,hv,rfl⟩
end
section
variable [Lz]
noncomputable def clV (F:FnI) (s:St):Option DV:=match resX tab s F.res.toList with
 | some ds=>hfV false false (oneD (rslvL (qr s.ms) ds)) some
 | none=>none
noncomputable def clM (l:Na) (s:St) (val:DV):Option Na:=
 let ms':=sel s.ms (jX s.ms 20000 (val.refs++l.map (·.1)) [])
 bif q7 ms'&&val.refs.all (jH ms')&&l.all (fun p=>jH ms' p.1) then some ms' else none
theorem clX {F:FnI} {lo:Nat} {l:Na} {s:St} {val0:DV} {out:Na} (h:clV F s=some val0) (hm:clM l s val0=some out):kY tab F lo l s=some (val0,out):=by
 unfold clV at h
 unfold kY
 split at h
 ·rename_i ds e
  rw[e]
  rw[hfV_eq] at h
  cases h
  unfold clM at hm
  simp only[X7] at hm ⊢
  split at hm
  ·rename_i hc;rw[WK hc];cases hm;rfl
  cases hm
 cases h
theorem lF {F:FnI} {lo:Nat} {val val0:DV} {s:St} (h:clV F s=some val0) (hv:val0=val) (hm:clM [] s val0=some []:=by kernel_rfl):Post tab F lo val .ret s:=leaf (clX h hm) hv
theorem lL {F:FnI} {lo:Nat} {l:Na} {val val0:DV} {out:Na} {s:St} (h:clV F s=some val0) (hv:val0=val) (hm:clM l s val0=some out:=by kernel_rfl):PostL tab F lo l val out .ret s:=ZG (.inr Z) (clX h hm) hv rfl
end
end Go.Lens.Tb
end
section
namespace Go.Lens
variable [Lz]
theorem wrap_u64 (n:Int):IntKind.wrap .u64 n=n%18446744073709551616:=by
 have hb:IntKind.u64.bits=64:=rfl
 have hs:IntKind.u64.signed=false:=rfl
 unfold IntKind.wrap
 grind
def wr64 (n:Int):Int:=if 9223372036854775808<=n%18446744073709551616 then n%18446744073709551616-18446744073709551616 else n%18446744073709551616
theorem wrap_i64 (n:Int):IntKind.wrap .i64 n=wr64 n:=by
 have hb:IntKind.i64.bits=64:=rfl
 have hs:IntKind.i64.signed=true:=rfl
 unfold IntKind.wrap wr64
 grind
section
variable {P:Program} {Y:Tab} [qH P Y] {nb:Nat} {s:St} {dst:Option Tmp} {ty u:TypeId} {pos:String} {af:Array Edge} {gd:Option (Nat×Bool)} {t:TypeId} {x y z:Operand} {a b:Int}
theorem B.addU (hx:ev1 s x=lit (.int .u64 a)) (hy:ev1 s y=lit (.int .u64 b)):Body P Y nb s ⟨dst,.binOp .add t x y u,ty,pos,af,gd⟩ (lit (.int .u64 ((a+b)%18446744073709551616))) [] []:=by
 refine B.bin hx hy ?_
 show qE (some (true,lit (.int .u64 (IntKind.wrap .u64 (a+b)))))=_
 rw[wrap_u64];rfl
theorem B.subU (hx:ev1 s x=lit (.int .u64 a)) (hy:ev1 s y=lit (.int .u64 b)):Body P Y nb s ⟨dst,.binOp .sub t x y u,ty,pos,af,gd⟩ (lit (.int .u64 ((a-b)%18446744073709551616))) [] []:=by
 refine B.bin hx hy ?_
 show qE (some (true,lit (.int .u64 (IntKind.wrap .u64 (a-b)))))=_
 rw[wrap_u64];rfl
theorem B.mulU (hx:ev1 s x=lit (.int .u64 a)) (hy:ev1 s y=lit (.int .u64 b)):Body P Y nb s ⟨dst,.binOp .mul t x y u,ty,pos,af,gd⟩ (lit (.int .u64 ((a*b)%18446744073709551616))) [] []:=by
 refine B.bin hx hy ?_
 show qE (some (true,lit (.int .u64 (IntKind.wrap .u64 (a*b)))))=_
 rw[wrap_u64];rfl
theorem B.addV (hx:ev1 s x=lit (.int .u64 a)) (hy:ev1 s y=lit (.int .u64 b)) (h:0<=a+b/\a+b<18446744073709551616):Body P Y nb s ⟨dst,.binOp .add t x y u,ty,pos,af,gd⟩ (lit (.int .u64 (a+b))) [] []:=by
 have:=B.addU (P:=P) (Y:=Y) (nb:=nb) (dst:=dst) (ty:=ty) (u:=u) (pos:=pos) (af:=af) (gd:=gd) (t:=t) hx hy
 grind
theorem B.subV (hx:ev1 s x=lit (.int .u64 a)) (hy:ev1 s y=lit (.int .u64 b)) (h:0<=a-b/\a-b<18446744073709551616):Body P Y nb s ⟨dst,.binOp .sub t x y u,ty,pos,af,gd⟩ (lit (.int .u64 (a-b))) [] []:=by
 have:=B.subU (P:=P) (Y:=Y) (nb:=nb) (dst:=dst) (ty:=ty) (u:=u) (pos:=pos) (af:=af) (gd:=gd) (t:=t) hx hy
 grind
theorem B.mulV (hx:ev1 s x=lit (.int .u64 a)) (hy:ev1 s y=lit (.int .u64 b)) (h:0<=a*b/\a*b<18446744073709551616):Body P Y nb s ⟨dst,.binOp .mul t x y u,ty,pos,af,gd⟩ (lit (.int .u64 (a*b))) [] []:=by
 have:=B.mulU (P:=P) (Y:=Y) (nb:=nb) (dst:=dst) (ty:=ty) (u:=u) (pos:=pos) (af:=af) (gd:=gd) (t:=t) hx hy
 grind
theorem B.quoU (hx:ev1 s x=lit (.int .u64 a)) (hy:ev1 s y=lit (.int .u64 b)) (h:0<=a/\a<18446744073709551616/\0<b):Body P Y nb s ⟨dst,.binOp .quo t x y u,ty,pos,af,gd⟩ (lit (.int .u64 (a / b))) [] []:=by
 refine B.bin hx hy ?_
 show qE (some (b != 0&&true,lit (.int .u64 (IntKind.wrap .u64 (a.tdiv b)))))=_
 have h0:(b != 0)=true:=by grind
 have h1:a / b<=a:=X8 b h.1
 have h2:0<=a / b:=Js h.1 aa
 rw[h0,wrap_u64,Qt h.1,XR h2 aa];rfl
theorem B.remU (hx:ev1 s x=lit (.int .u64 a)) (hy:ev1 s y=lit (.int .u64 b)) (h:0<=a/\0<b):Body P Y nb s ⟨dst,.binOp .rem t x y u,ty,pos,af,gd⟩ (lit (.int .u64 (a%b))) [] []:=by
 refine B.bin hx hy ?_
 show qE (some (b != 0,lit (.int .u64 (a.tmod b))))=_
 have h0:(b != 0)=true:=by grind
 rw[h0,Qu h.1];rfl
theorem B.shrU {k:IntKind} {K:Int} (hx:ev1 s x=lit (.int .u64 a)) (hy:ev1 s y=lit (.int k b)) (hb:0<=b) (hK:(2:Int) ^ (Min.min b.toNat 64)=K):Body P Y nb s ⟨dst,.binOp .shr t x y u,ty,pos,af,gd⟩ (lit (.int .u64 (a / K))) [] []:=by
 refine B.bin hx hy ?_
 show qE (some (decide (0<=b),lit (.int .u64 (a.fdiv (2 ^ (Min.min b.toNat 64))))))=_
 rw[zl hb,hK,Qs _ (by rw[<-hK];exact Kp (K8 ah))];rfl
theorem B.shlU {k:IntKind} {K:Int} (hx:ev1 s x=lit (.int .u64 a)) (hy:ev1 s y=lit (.int k b)) (hb:0<=b) (hK:(2:Int) ^ (Min.min b.toNat 64)=K):Body P Y nb s ⟨dst,.binOp .shl t x y u,ty,pos,af,gd⟩ (lit (.int .u64 ((a*K)%18446744073709551616))) [] []:=by
 refine B.bin hx hy ?_
 show qE (some (decide (0<=b),lit (.int .u64 (IntKind.wrap .u64 (a*2 ^ (Min.min b.toNat 64))))))=_
 rw[zl hb,hK,wrap_u64];rfl
theorem u64_nat {a:Int} (h:0<=a/\a<18446744073709551616):∃ n:Nat,a=(n:Int)/\n<2 ^ 64:=⟨a.toNat,aa,aa⟩
theorem bv_nat {n:Nat} (h:n<2 ^ 64):(BitVec.ofInt 64 (n:Int)).toNat=n:=by grind
theorem B.andM (k:Nat) (hx:ev1 s x=lit (.int .u64 a)) (hy:ev1 s y=lit (.int .u64 b)) (h:0<=a/\a<18446744073709551616) (hk:k<=64) (hb:b=((2 ^ k-1:Nat):Int)):Body P Y nb s ⟨dst,.binOp .and t x y u,ty,pos,af,gd⟩ (lit (.int .u64 (a%((2 ^ k:Nat):Int)))) [] []:=by
 refine B.bin hx hy ?_
 show qE (some (true,lit (.int .u64 (IntKind.wrap .u64 ((BitVec.ofInt 64 a &&&BitVec.ofInt 64 b).toNat:Nat)))))=_
 obtain⟨n,rfl,hn⟩:=u64_nat h
 have hlt:2 ^ k-1<2 ^ 64:=by
  have:=Xj (show 0<2 by decide) hk
  omega
 rw[hb,BitVec.toNat_and,bv_nat hn,bv_nat hlt,Qj,wrap_u64]
 have h1:n%2 ^ k<=n:=Nat.mod_le _ _
 rw[XR aa aa]
 show some (lit (.int .u64 ((n%2 ^ k:Nat):Int)),_)=_
 rw[Int.natCast_emod]
theorem B.orV (k:Nat) {c:Int} (hx:ev1 s x=lit (.int .u64 a)) (hy:ev1 s y=lit (.int .u64 b)) (ha:a=c*((2 ^ k:Nat):Int)) (hc:0<=c) (hb:0<=b/\b<((2 ^ k:Nat):Int)) (h:a+b<18446744073709551616):Body P Y nb s ⟨dst,.binOp .or t x y u,ty,pos,af,gd⟩ (lit (.int .u64 (a+b))) [] []:=by
 refine B.bin hx hy ?_
 show qE (some (true,lit (.int .u64 (IntKind.wrap .u64 ((BitVec.ofInt 64 a |||BitVec.ofInt 64 b).toNat:Nat)))))=_
 obtain⟨n,rfl⟩:∃ n:Nat,c=(n:Int):=⟨c.toNat,aa⟩
 obtain⟨m,rfl⟩:∃ m:Nat,b=(m:Int):=⟨b.toNat,aa⟩
 have hm:m<2 ^ k:=aa
 have ha':a=((n*2 ^ k:Nat):Int):=by rw[ha];push_cast;rfl
 subst ha'
 have hs:n*2 ^ k+m<2 ^ 64:=aa
 rw[BitVec.toNat_or,bv_nat aa,bv_nat aa,wrap_u64]
 have e:n*2 ^ k |||m=n*2 ^ k+m:=by rw[KL,<-Nat.two_pow_add_eq_or_of_lt hm]
 rw[e,XR aa aa]
 show some (lit (.int .u64 ((n*2 ^ k+m:Nat):Int)),_)=_
 rw[Jw]
theorem B.toU {k:IntKind} {t':TypeId} {d:TypeDesc} (hx:ev1 s x=lit (.int k a)) (hu:Y.underlying t=some d) (hu':Y.underlying t'=some (.int .u64)) (hs:s2bV Y t t' (lit (.int k a))=none) :
  Body P Y nb s ⟨dst,.convert t t' x,ty,pos,af,gd⟩ (lit (.int .u64 (a%18446744073709551616))) [] []:=by
 refine B.pure (lo:=0) (nm:=0) (kn P) ?_ ?_
 ·intro z hz
  have:z=x:=by simpa [Op.operands] using hz
  rw[this,hx];rfl
 have e1:evU (tmpsOf [x]) s x=_:=(qR ao).trans hx
 show (match s2bV Y t t' (evU (tmpsOf [x]) s x) with|some ⟨true,v,m⟩=>some (v,m)|some _=>none|none=>qE (convW Y t t' (qr []) (evU (tmpsOf [x]) s x)))=_
 rw[e1,hs]
 show qE (convQ Y t t' (lit (.int k a)))=_
 unfold convQ lit
 rw[hu,hu']
 show qE (some (true,lit (.int .u64 (IntKind.wrap .u64 a))))=_
 rw[wrap_u64];rfl
theorem B.addW (hx:ev1 s x=lit (.int .i64 a)) (hy:ev1 s y=lit (.int .i64 b)):Body P Y nb s ⟨dst,.binOp .add t x y u,ty,pos,af,gd⟩ (lit (.int .i64 (wr64 (a+b)))) [] []:=by
 refine .inr (jS.of fun σ G a' w hv hl I=>?_)
 have hX:=hv x aS
 have hY:=hv y aS
 rw[hx] at hX;rw[hy] at hY
 have eX:=(qx hX).1
 have eY:=(qx hY).1
 refine⟨.int .i64 (wr64 (a+b)),w,G,.inl ?_,qD I.ctxS (qG Z) (fun k hk=>by simp[lit,DV.refs] at hk)⟩
 rw[<-wrap_i64]
 have hg:eqGuard .add t x y (.int .i64 a) (.int .i64 b)=(Pure.pure ():Sem Unit):=by simp[eqGuard]
 simp only[execOp,qp,eX,eY,hg]
 simp[binOp,Op.intArith]
theorem B.negW (hx:ev1 s x=lit (.int .i64 a)):Body P Y nb s ⟨dst,.unOp .neg t x,ty,pos,af,gd⟩ (lit (.int .i64 (wr64 (0-a)))) [] []:=by
 refine .inr (jS.of fun σ G a' w hv hl I=>?_)
 have hX:=hv x aS
 rw[hx] at hX
 have eX:=(qx hX).1
 refine⟨.int .i64 (wr64 (0-a)),w,G,.inl ?_,qD I.ctxS (qG Z) (fun k hk=>by simp[lit,DV.refs] at hk)⟩
 rw[<-wrap_i64]
 simp only[execOp,qp,qq,qo,eX]
 simp[Op.unary,Op.intArith]
theorem B.slW {α:Type} {enc:α->List PV} {l:List α} {lo hi:Operand} {h v sz i j:Nat} {k k2:IntKind} {n m:Int} {e T:TypeId} (hx:ev1 s x=.aref h v) (hm:qr s.ms h=some (.arr v sz T (l.map enc))) (hlo:ev1 s lo=lit (.int k n)) (hhi:ev1 s hi=lit (.int k2 m)) (und:Y.underlying t=some (.slice e)) (hs:szT Y e=some sz)
  (hn:n=(i:Int)) (hmm:m=(j:Int)) (hij:i<j) (hj:j<=l.length):Body P Y nb s ⟨dst,.slice t x (some lo) (some hi) none,ty,pos,af,gd⟩ (.awin h v i (j-i)) [] [h]:=by
 refine .inr (jS.of fun σ G a w hv hl I=>?_)
 have hX:=hv x aS
 have hY:=hv lo aS
 have hZ:=hv hi aS
 rw[hx] at hX;rw[hlo] at hY;rw[hhi] at hZ
 have hlk:qr σ.ms h=some (.arr v sz T (l.map enc)):=by grind
 have hq:kU Y t (qr σ.ms) (.aref h v) (some (lit (.int k n))) (some (lit (.int k2 m))) none=some (true,.awin h v i (j-i)):=by
  unfold kU lit
  subst hn hmm
  have:decide ((0:Int)<=(i:Int)/\(i:Int)<(j:Int)/\(j:Int)<=((l.map enc).length:Int))=true:=zl ⟨aa,aa,by rw[zI];omega⟩
  simp only[und,bound,hs,hlk,WB,ql,this,zT]
 obtain⟨r,h1,h2⟩:=sliceW_sound (P:=P) I.ctxS.sees hq hX (vlo:=some (a.eval lo)) (vhi:=some (a.eval hi)) (vmx:=none) hY hZ trivial
 refine⟨r,w,G,.inl ?_,qD I.ctxS h2 (fun k hk=>?_)⟩
 ·simp only[execOp,JN,qc,qp,h1,qo,qq]
 grind [DV.refs,List.mem_singleton]
theorem B.idxW {h v sz i n o c:Nat} {k:IntKind} {m:Int} {e T:TypeId} {es:List (List PV)} (hx:ev1 s x=.awin h v o c) (hm:qr s.ms h=some (.arr v sz T es)) (hy:ev1 s y=lit (.int k m)) (und:Y.underlying t=some (.slice e)) (hs:szT Y e=some sz)
  (hn:m=(n:Int)) (hlt:n<c) (hi:i=o+n):Body P Y nb s ⟨dst,.indexAddr t x y,ty,pos,af,gd⟩ (.eref h v i 0) [] [h]:=by
 refine .inr (jS.of fun σ G a w hv hl I=>?_)
 have hX:=hv x aS
 have hY:=hv y aS
 rw[hx] at hX;rw[hy] at hY
 have hlk:qr σ.ms h=some (.arr v sz T es):=by grind
 have hq:jT Y t (qr σ.ms) (.awin h v o c) (lit (.int k m))=some (true,.eref h v i 0):=by
  unfold jT lit
  subst hn hi
  have:decide ((0:Int)<=(n:Int)/\(n:Int)<(c:Int))=true:=zl ⟨aa,aa⟩
  grind
 obtain⟨r,h1,h2⟩:=ZB (P:=P) I.ctxS.sees hq hX hY
 refine⟨r,w,G,.inl ?_,qD I.ctxS h2 (fun k hk=>?_)⟩
 ·simp only[execOp,qp,h1,qo,qq]
 grind [DV.refs,List.mem_singleton]
end
end Go.Lens
end
section
namespace Go.Lens.Un
def val (β:Nat):List Nat->Nat
 | []=>0
 | x::l=>x+β*val β l
theorem val_app (β:Nat):∀ (a b:List Nat),val β (a++b)=val β a+β ^ a.length*val β b
 | [],b=>by simp[val]
 | x::a,b=>by
  rw[zQ,val,val,val_app β a b,zb,KN];grind
theorem val_one (β x:Nat):val β [x]=x:=by simp[val]
theorem val_snoc (β:Nat) (a:List Nat) (x:Nat):val β (a++[x])=val β a+β ^ a.length*x:=by rw[val_app,val_one]
def Dg (β:Nat) (l:List Nat):Prop:=∀ x∈l,x<β
theorem Dg.tail {β x:Nat} {l:List Nat} (h:Dg β (x::l)):Dg β l:=fun y hy=>h y (zN _ hy)
theorem Dg.head {β x:Nat} {l:List Nat} (h:Dg β (x::l)):x<β:=h x (qh ..)
theorem Dg.take {β:Nat} {l:List Nat} (h:Dg β l) (k:Nat):Dg β (l.take k):=fun y hy=>h y (zu hy)
theorem Dg.drop {β:Nat} {l:List Nat} (h:Dg β l) (k:Nat):Dg β (l.drop k):=fun y hy=>h y (zw hy)
theorem Dg.app {β:Nat} {a b:List Nat} (h:Dg β a) (g:Dg β b):Dg β (a++b):=fun y hy=>(zH.1 hy).elim (h y) (g y)
theorem Dg.set {β:Nat} {l:List Nat} (h:Dg β l) {k x:Nat} (hx:x<β):Dg β (l.set k x):=fun y hy=>by
 rcases QE hy with hy|rfl
 ·exact h y hy
 exact hx
theorem Dg.get {β:Nat} (hβ:0<β) {l:List Nat} (h:Dg β l) (k:Nat):l.getD k 0<β:=by
 rw[ze]
 by_cases hk:k<l.length
 ·rw[zm hk];exact h _ (Jd hk)
 grind
theorem dg_nil (β:Nat):Dg β []:=fun x hx=>by cases hx
theorem dg_one {β x:Nat} (h:x<β):Dg β [x]:=fun y hy=>by rw[zg.1 hy];exact h
theorem dg_zero {β:Nat} (hβ:0<β) (n:Nat):Dg β (replicate n 0):=fun y hy=>by rw[(List.mem_replicate.1 hy).2];exact hβ
theorem val_zero (β:Nat):∀ n,val β (replicate n 0)=0
 | 0=>rfl
 | n+1=>by rw[Xt,val,val_zero β n];rfl
theorem jR {β:Nat}:∀ {l:List Nat},Dg β l->val β l<β ^ l.length
 | [],_=>by simp[val]
 | x::l,h=>by
  have h1:=jR h.tail
  have h2:=h.head
  rw[val,zb,KN]
  have h3:β*(val β l+1)<=β*β ^ l.length:=Xw β h1
  grind
theorem val_cut (β:Nat) (l:List Nat) (k:Nat):val β l=val β (l.take k)+β ^ (min k l.length)*val β (l.drop k):=by
 have h:=val_app β (l.take k) (l.drop k)
 rw[Q8,zn] at h
 exact h
theorem val_cut' {β:Nat} {l:List Nat} {k:Nat} (hk:k<=l.length):val β l=val β (l.take k)+β ^ k*val β (l.drop k):=by
 have h:=val_cut β l k
 rwa [JK hk] at h
theorem take_snoc {l:List Nat} {k:Nat} (hk:k<l.length):l.take (k+1)=l.take k++[l.getD k 0]:=by grind [List.take_succ_eq_append_getElem]
theorem drop_cons {l:List Nat} {k:Nat} (hk:k<l.length):l.drop k=l.getD k 0::l.drop (k+1):=by grind [List.drop_eq_getElem_cons]
theorem val_take {β:Nat} {l:List Nat} {k:Nat} (hk:k<l.length):val β (l.take (k+1))=val β (l.take k)+β ^ k*l.getD k 0:=by rw[take_snoc hk,val_snoc,zn,JK aa]
theorem ZJ {β:Nat} {l:List Nat} {k:Nat} (hk:k<l.length):val β (l.drop k)=l.getD k 0+β*val β (l.drop (k+1)):=by rw[drop_cons hk,val]
theorem val_set {β:Nat}:∀ {l:List Nat} {k:Nat} (x:Nat),k<l.length->val β (l.set k x)+β ^ k*l.getD k 0=val β l+β ^ k*x
 | [],k,x,h=>by cases h
 | y::l,0,x,h=>by
  show x+β*val β l+1*y=y+β*val β l+1*x
  omega
 | y::l,k+1,x,h=>by
  have ih:=val_set (β:=β) (l:=l) (k:=k) x ai
  show y+β*val β (l.set k x)+β ^ (k+1)*l.getD k 0=y+β*val β l+β ^ (k+1)*x
  rw[KN];grind
theorem jP {l:List Nat} {k i:Nat} {x:Nat} (h:i<=k):(l.set k x).take i=l.take i:=by rw[List.take_set_of_le h]
theorem getD_set_ne {l:List Nat} {k i:Nat} {x:Nat} (h:k≠i):(l.set k x).getD i 0=l.getD i 0:=by grind
theorem jm {l:List Nat} {k:Nat} {x:Nat} (h:k<l.length):(l.set k x).getD k 0=x:=by grind
theorem val_pad {β:Nat} {l:List Nat} {k:Nat} (h:∀ i,k<=i->l.getD i 0=0):val β l=val β (l.take k):=by
 have key:∀ (l:List Nat),(∀ i,l.getD i 0=0)->val β l=0:=by
  intro l
  induction l with
  | nil=>intro _;rfl
  | cons y l ih=>
   intro h
   have h0:y=0:=h 0
   rw[val,h0,ih fun i=>h (i+1)];simp
 rw[val_cut β l k,key (l.drop k) fun i=>by
  have:=h (k+i) aa
  rw[ze] at this ⊢
  rwa [XB]]
 simp
def Nz (l:List Nat):Prop:=∀ x,l.getLast? =some x->x≠0
theorem nz_nil:Nz []:=fun x h=>by cases h
theorem Nz.tail {x:Nat} {l:List Nat} (h:Nz (x::l)):Nz l:=fun y hy=>by
 cases l with
 | nil=>cases hy
 | cons z l=>exact h y (by rw[QR];exact hy)
theorem nz_pos {β:Nat} (hβ:2<=β):∀ {l:List Nat},Nz l->l≠[]->β ^ (l.length-1)<=val β l
 | [],_,h=>absurd Z h
 | [x],h,_=>by
  have:=h x rfl
  rw[val_one]
  show β ^ 0<=x
  rw[KO];omega
 | x::y::l,h,_=>by
  have ih:=nz_pos hβ h.tail ao
  rw[val]
  show β ^ (l.length+1)<=_
  have e:(y::l).length-1=l.length:=rfl
  rw[e] at ih
  have:=Xw β ih
  grind
theorem val_inj {β:Nat} (hβ:2<=β):∀ {a b:List Nat},Dg β a->Dg β b->Nz a->Nz b->val β a=val β b->a=b
 | [],[],_,_,_,_,_=>rfl
 | [],y::b,_,_,_,hb,e=>by
  have:=nz_pos hβ hb ao
  have h0:0<β ^ ((y::b).length-1):=Wj aa
  rw[<-e] at this
  simp only[val] at this
  omega
 | x::a,[],_,_,ha,_,e=>by
  have:=nz_pos hβ ha ao
  have h0:0<β ^ ((x::a).length-1):=Wj aa
  rw[e] at this
  simp only[val] at this
  omega
 | x::a,y::b,da,db,ha,hb,e=>by
  rw[val,val] at e
  have h1:=da.head
  have h2:=db.head
  have m1:(x+β*val β a)%β=x:=by rw[QH];exact Jm h1
  have m2:(y+β*val β b)%β=y:=by rw[QH];exact Jm h2
  have ex:x=y:=by rw[<-m1,<-m2,e]
  subst ex
  have ev:val β a=val β b:=QI (show 0<β by omega) aa
  rw[val_inj hβ da.tail db.tail ha.tail hb.tail ev]
def dig (β n:Nat):List Nat:=if h:n=0\/β<2 then [] else n%β::dig β (n / β)
termination_by n
decreasing_by
 have h1:¬n=0:=fun e=>h (.inl e)
 have h2:¬β<2:=fun e=>h (.inr e)
 exact JH aa aa
theorem jL (β:Nat):dig β 0=[]:=by rw[dig,WI (.inl rfl)]
theorem dig_pos {β n:Nat} (hβ:2<=β) (hn:n≠0):dig β n=n%β::dig β (n / β):=by rw[dig,WH aa]
theorem qO {β:Nat} (hβ:2<=β) (n:Nat):val β (dig β n)=n:=by
 induction n using Nat.strongRecOn with
 | _ n ih=>
  by_cases hn:n=0
  ·subst hn;rw[jL];rfl
  rw[dig_pos hβ hn,val,ih (n / β) (JH aa aa)]
  exact JL n β
theorem jc {β:Nat} (hβ:2<=β) (n:Nat):Dg β (dig β n):=by
 induction n using Nat.strongRecOn with
 | _ n ih=>
  by_cases hn:n=0
  ·subst hn;rw[jL];exact dg_nil β
  rw[dig_pos hβ hn]
  intro x hx
  rcases zF.1 hx with rfl|hx
  ·exact Wu _ aa
  exact ih (n / β) (JH aa aa) x hx
theorem dig_nil {β n:Nat} (hβ:2<=β) (h:dig β n=[]):n=0:=by
 have:=qO hβ n
 rw[h] at this
 exact this.symm
theorem nz_dig {β:Nat} (hβ:2<=β) (n:Nat):Nz (dig β n):=by
 induction n using Nat.strongRecOn with
 | _ n ih=>
  by_cases hn:n=0
  ·subst hn;rw[jL];exact nz_nil
  rw[dig_pos hβ hn]
  by_cases h2:n / β=0
  ·rw[h2,jL]
   intro x hx
   cases hx
   have:n<β:=by
    rcases KJ n β with h|h
    ·exact h
    have:=Wb h aa;omega
   rw[Jm this];exact hn
  have h3:dig β (n / β)≠[]:=fun e=>h2 (dig_nil hβ e)
  intro x hx
  obtain⟨y,l,e⟩:=Qv h3
  rw[e,QR,<-e] at hx
  exact ih (n / β) (JH aa aa) x hx
theorem dig_val {β:Nat} (hβ:2<=β) {l:List Nat} (h:Dg β l) (hn:Nz l):l=dig β (val β l):=
 val_inj hβ h (jc hβ _) hn (nz_dig hβ _) (qO hβ _).symm
theorem je {β:Nat} (hβ:2<=β) {n k:Nat} (h:n<β ^ k):(dig β n).length<=k:=by
 rcases KJ k (dig β n).length with hk|hk
 ·have h1:=nz_pos hβ (nz_dig hβ n) (fun e=>by rw[e] at hk;simp at hk)
  rw[qO hβ] at h1
  have h2:β ^ k<=β ^ ((dig β n).length-1):=Xj aa aa
  omega
 exact hk
theorem jB {β:Nat} (hβ:2<=β) (n:Nat):n<β ^ (dig β n).length:=by
 have:=jR (jc hβ n)
 rwa [qO hβ] at this
theorem ZN {β:Nat} (hβ:2<=β) {m n:Nat} (h:(dig β m).length<(dig β n).length):m<n:=by
 have h1:=jB hβ m
 have h2:=nz_pos hβ (nz_dig hβ n) (fun e=>by rw[e] at h;simp at h)
 rw[qO hβ] at h2
 have h3:β ^ (dig β m).length<=β ^ ((dig β n).length-1):=Xj aa aa
 omega
theorem j7 {β n:Nat} (hβ:2<=β) (h0:n≠0) (h:n<β):dig β n=[n]:=by rw[dig_pos hβ h0,Jm h,Ji h,jL]
theorem val_ge {β:Nat} {l:List Nat} {k:Nat} (hk:k<l.length):β ^ k*l.getD k 0<=val β l:=by
 rw[val_cut' (show k<=l.length by omega),ZJ hk,Wd]
 omega
theorem trim_end {β:Nat} (hβ:2<=β) {l:List Nat} {n:Nat} (hd:Dg β l) (hn:n<=l.length) (hv:val β (l.take n)=val β l) (h:0<n->l.getD (n-1) 0≠0):l.take n=dig β (val β l):=by
 rw[<-hv]
 refine dig_val hβ (hd.take n) fun x hx=>?_
 by_cases h0:0<n
 ·have e:l.take n=l.take (n-1)++[l.getD (n-1) 0]:=by
   rw[<-take_snoc (show n-1<l.length by omega),show n-1+1=n by omega]
  rw[e,List.getLast?_concat] at hx
  cases hx
  exact h h0
 rw[show n=0 by omega] at hx;cases hx
theorem trim_next {β:Nat} {l:List Nat} {n:Nat} (hn:n<=l.length) (h0:0<n) (hv:val β (l.take n)=val β l) (h:l.getD (n-1) 0=0):val β (l.take (n-1))=val β l:=by
 have:=val_take (β:=β) (show n-1<l.length by omega)
 rw[show n-1+1=n by omega,h] at this
 omega
theorem cmp_lt {β:Nat} {a b:List Nat} {k:Nat} (ha:Dg β a) (hk:k<a.length) (hl:a.length=b.length) (he:a.drop (k+1)=b.drop (k+1)) (h:a.getD k 0<b.getD k 0):val β a<val β b:=by
 rw[val_cut' (β:=β) (show k<=a.length by omega),val_cut' (β:=β) (show k<=b.length by omega),ZJ hk,ZJ (show k<b.length by omega),he]
 have h1:=jR (ha.take k)
 rw[zn,JK aa] at h1
 have h2:β ^ k*(a.getD k 0+1)<=β ^ k*b.getD k 0:=Xw _ h
 grind
theorem jb {β:Nat} (l:List Nat) (k:Nat):val β (l.take (k+1))=val β (l.take k)+β ^ k*l.getD k 0:=by
 by_cases hk:k<l.length
 ·exact val_take hk
 grind [List.take_of_length_le]
theorem kQ {β:Nat} {l:List Nat} {k:Nat} (hk:l.length<=k):val β (l.take k)=val β l:=by rw[zz hk]
theorem kh {β:Nat} {l:List Nat} {n:Nat} (h:l.length=n+1):val β l=val β (l.take n)+β ^ n*l.getD n 0:=by rw[<-jb l n,zz aa]
theorem ZY {l:List Nat} {k x n:Nat} (h:l.length=n):(l.set k x).length=n:=by rw[JB,h]
def AddI (β:Nat) (x y:List Nat) (i:Nat) (out:List Nat) (c:Nat):Prop:=out.length=x.length+1/\Dg β out/\c<=1/\val β (out.take i)+c*β ^ i=val β (x.take i)+val β (y.take i)
section
variable {β:Nat} {x y out:List Nat} {i c:Nat}
theorem add_init (hβ:2<=β):AddI β x y 0 (replicate (x.length+1) 0) 0:=⟨by simp,dg_zero aa _,zt _,by simp[val]⟩
theorem add_next (hβ:2<=β) (h:AddI β x y i out c) (hi:i<x.length) (hx:Dg β x) (hy:Dg β y):AddI β x y (i+1) (out.set i ((x.getD i 0+y.getD i 0+c)%β)) ((x.getD i 0+y.getD i 0+c) / β):=by
 obtain⟨h1,h2,h3,h4⟩:=h
 have a:=hx.get aa i
 have b:=hy.get aa i
 refine⟨ZY h1,h2.set (Wu _ aa),?_,?_⟩
 ·have:(x.getD i 0+y.getD i 0+c) / β<2:=Xg aa
  omega
 rw[val_take aW,jP (zB _),jm aa,jb x,jb y,KN]
 have e:=JL (x.getD i 0+y.getD i 0+c) β
 grind
theorem add_end (hβ:2<=β) (h:AddI β x y i out c) (hi:¬i<x.length) (hi2:i<=x.length) (hl:y.length<=x.length):Dg β (out.set x.length c)/\val β (out.set x.length c)=val β x+val β y:=by
 obtain⟨h1,h2,h3,h4⟩:=h
 have:i=x.length:=aa
 subst this
 refine⟨h2.set aa,?_⟩
 rw[kh (n:=x.length) (ZY h1),jP (zB _),jm aa]
 grind [kQ]
end
def SubI (β:Nat) (x y:List Nat) (i:Nat) (out:List Nat) (b:Nat):Prop:=out.length=x.length/\Dg β out/\b<=1/\val β (out.take i)+val β (y.take i)=val β (x.take i)+b*β ^ i
theorem sub64 {β x y b:Nat} (hx:x<β) (hy:y<β) (hb:b<=1):(x+β-y-b)%β+y+b=x+(if x<y+b then 1 else 0)*β/\(x+β-y-b)%β<β:=by
 refine⟨?_,Wu _ aa⟩
 by_cases h:x<y+b
 ·rw[WK h,Jm aa];omega
 rw[WJ h,show x+β-y-b=(x-y-b)+β by omega,Nat.add_mod_right,Jm aa];omega
section
variable {β:Nat} {x y out:List Nat} {i b:Nat}
theorem sub_init (hβ:2<=β):SubI β x y 0 (replicate x.length 0) 0:=⟨by simp,dg_zero aa _,zt _,by simp[val]⟩
theorem sub_next (hβ:2<=β) (h:SubI β x y i out b) (hi:i<x.length) (hx:Dg β x) (hy:Dg β y):SubI β x y (i+1) (out.set i ((x.getD i 0+β-y.getD i 0-b)%β)) (if x.getD i 0<y.getD i 0+b then 1 else 0):=by
 obtain⟨h1,h2,h3,h4⟩:=h
 obtain⟨e,lt⟩:=sub64 (hx.get aa i) (hy.get aa i) h3
 refine⟨ZY h1,h2.set lt,?_,?_⟩
 ·split<;>omega
 rw[val_take aW,jP (zB _),jm aa,jb x,jb y,KN]
 generalize (x.getD i 0+β-y.getD i 0-b)%β=p at*
 grind
theorem sub_end (hβ:2<=β) (h:SubI β x y i out b) (hi:¬i<x.length) (hi2:i<=x.length) (hl:y.length<=x.length) (hv:val β y<=val β x):Dg β out/\val β out=val β x-val β y:=by
 obtain⟨h1,h2,h3,h4⟩:=h
 have:i=x.length:=aa
 subst this
 rw[kQ aa,kQ (zB _),kQ hl] at h4
 have h5:=jR h2
 rw[h1] at h5
 refine⟨h2,?_⟩
 by_cases hb:b=0
 ·subst hb;omega
 grind
end
theorem mac {β x y o k:Nat} (hx:x<β) (hy:y<β) (ho:o<β) (hk:k<β) :
 ((x*y%β+o)%β+k)%β=(x*y+o+k)%β/\x*y / β+(x*y%β+o) / β+((x*y%β+o)%β+k) / β=(x*y+o+k) / β/\(x*y+o+k) / β<β:=by
 have hβ:0<β:=aa
 have e:=JL (x*y) β
 have e1:=JL (x*y%β+o) β
 have e2:=JL ((x*y%β+o)%β+k) β
 have l2:((x*y%β+o)%β+k)%β<β:=Wu _ hβ
 have t:x*y+o+k=((x*y%β+o)%β+k)%β+β*(x*y / β+(x*y%β+o) / β+((x*y%β+o)%β+k) / β):=by grind
 have hle:x*y<=(β-1)*(β-1):=Ka aa aa
 have hsq:(β-1)*(β-1)+2*(β-1)+1=β*β:=by
  obtain⟨m,rfl⟩:∃ m,β=m+1:=⟨β-1,aa⟩
  rw[XF];grind
 refine⟨?_,?_,?_⟩
 ·rw[t,QH,Jm l2]
 ·rw[t,Xf _ _ hβ,Ji l2,KT]
 exact Xg aa
theorem mac2 {β x y k:Nat} (hx:x<β) (hy:y<β) (hk:k<β):(x*y%β+k)%β=(x*y+k)%β/\x*y / β+(x*y%β+k) / β=(x*y+k) / β/\(x*y+k) / β<β:=by
 have h:=mac hx hy (show 0<β by omega) hk
 simp only[KD] at h
 rw[Jm (Wu (x*y) (show 0<β by omega)),Ji (Wu (x*y) (show 0<β by omega)),KD] at h
 exact h
def MulO (β:Nat) (a b:List Nat) (i:Nat) (out:List Nat):Prop:=out.length=a.length+b.length/\Dg β out/\val β out=val β (a.take i)*val β b/\∀ k,i+b.length<=k->out.getD k 0=0
def MulN (β:Nat) (a b:List Nat) (i j:Nat) (out:List Nat) (c:Nat):Prop:=out.length=a.length+b.length/\Dg β out/\c<β/\val β out+c*β ^ (i+j)=val β (a.take i)*val β b+β ^ i*a.getD i 0*val β (b.take j)/\∀ k,i+b.length<=k->out.getD k 0=0
section
variable {β:Nat} {a b out:List Nat} {i j c:Nat}
theorem getD_rep (n k:Nat):(replicate n (0:Nat)).getD k 0=0:=by grind
theorem mul_init (hβ:2<=β):MulO β a b 0 (replicate (a.length+b.length) 0):=⟨by simp,dg_zero aa _,by rw[val_zero];simp[val],fun k _=>getD_rep _ k⟩
theorem mul_in (hβ:2<=β) (h:MulO β a b i out):MulN β a b i 0 out 0:=by
 obtain⟨h1,h2,h3,h4⟩:=h
 exact⟨h1,h2,aa,by rw[h3];simp[val],h4⟩
theorem mul_next (hβ:2<=β) (h:MulN β a b i j out c) (ha:Dg β a) (hb:Dg β b) (hi:i<a.length) (hj:j<b.length) :
 MulN β a b i (j+1) (out.set (i+j) ((a.getD i 0*b.getD j 0+out.getD (i+j) 0+c)%β)) ((a.getD i 0*b.getD j 0+out.getD (i+j) 0+c) / β):=by
 obtain⟨h1,h2,h3,h4,h5⟩:=h
 have m:=mac (ha.get aa i) (hb.get aa j) (h2.get aa (i+j)) h3
 refine⟨ZY h1,h2.set (Wu _ aa),m.2.2,?_,fun k hk=>?_⟩
 ·have e:=val_set (β:=β) (l:=out) (k:=i+j) ((a.getD i 0*b.getD j 0+out.getD (i+j) 0+c)%β) aa
  have d:=JL (a.getD i 0*b.getD j 0+out.getD (i+j) 0+c) β
  rw[jb b]
  grind
 grind
theorem mul_out (hβ:2<=β) (h:MulN β a b i j out c) (hi:i<a.length) (hj:¬j<b.length) (hj2:j<=b.length):MulO β a b (i+1) (out.set (i+b.length) c):=by
 obtain⟨h1,h2,h3,h4,h5⟩:=h
 have:j=b.length:=aa
 subst this
 refine⟨ZY h1,h2.set h3,?_,fun k hk=>?_⟩
 ·have e:=val_set (β:=β) (l:=out) (k:=i+b.length) c aa
  rw[h5 _ (zB _)] at e
  rw[kQ (zB _)] at h4
  rw[jb a]
  generalize val β (out.set (i+b.length) c)=w at*
  grind
 rw[getD_set_ne aa];exact h5 k aa
theorem mul_end (h:MulO β a b i out) (hi:¬i<a.length):Dg β out/\val β out=val β a*val β b:=by
 obtain⟨h1,h2,h3,h4⟩:=h
 grind [kQ]
end
def DivI (β:Nat) (a:List Nat) (d i:Nat) (q:List Nat) (r:Nat):Prop:=q.length=a.length/\Dg β q/\r<d/\val β (a.drop i)=d*val β (q.drop i)+r
section
variable {β:Nat} {a q:List Nat} {d i r:Nat}
theorem div_init (hβ:2<=β) (hd:0<d):DivI β a d a.length (replicate a.length 0) 0:=⟨by simp,dg_zero aa _,hd,by simp[val]⟩
theorem ZT {l:List Nat} {k i:Nat} {x:Nat} (h:k<i):(l.set k x).drop i=l.drop i:=by rw[List.drop_set_of_lt h]
theorem div_next (hβ:2<=β) (h:DivI β a d (i+1) q r) (hi:i<a.length) (ha:Dg β a) (hd:d<β):DivI β a d i (q.set i ((r*β+a.getD i 0) / d)) ((r*β+a.getD i 0)%d):=by
 obtain⟨h1,h2,h3,h4⟩:=h
 have hlt:(r*β+a.getD i 0) / d<β:=by
  have:=ha.get (show 0<β by omega) i
  have h5:(r+1)*β<=d*β:=Xh β h3
  exact Xg (by grind)
 refine⟨ZY h1,h2.set hlt,Wu _ aa,?_⟩
 have hs:i<(q.set i ((r*β+a.getD i 0) / d)).length:=by rw[JB];omega
 rw[ZJ (l:=a) hi,ZJ hs,jm aa,ZT aa,h4]
 have e:=JL (r*β+a.getD i 0) d
 grind
theorem div_end (h:DivI β a d 0 q r):val β q=val β a / d/\r=val β a%d:=by
 obtain⟨h1,h2,h3,h4⟩:=h
 rw[J3,J3] at h4
 rw[h4]
 refine⟨?_,?_⟩
 ·rw[Nat.mul_add_div aa,Ji h3,KD]
 rw[Nat.mul_add_mod,Jm h3]
end
def ShlI (β:Nat) (a:List Nat) (K i:Nat) (out:List Nat):Prop:=out.length=a.length+1/\Dg β out/\val β (out.take i)+β ^ i*out.getD i 0=val β (a.take i)*K/\out.getD i 0<K/\∀ k,i<k->out.getD k 0=0
section
variable {β:Nat} {a out:List Nat} {i K M:Nat}
theorem shl_init (hβ:2<=β) (hK:0<K):ShlI β a K 0 (replicate (a.length+1) 0):=⟨by simp,dg_zero aa _,by rw[getD_rep];simp[val],by rw[getD_rep];exact hK,fun k _=>getD_rep _ k⟩
theorem shl_next (hβ:2<=β) (hK:0<K) (hM:K*M=β) (h:ShlI β a K i out) (hi:i<a.length) (ha:Dg β a) :
 ShlI β a K (i+1) ((out.set i (a.getD i 0*K%β+out.getD i 0)).set (i+1) (a.getD i 0 / M))/\a.getD i 0*K%β+out.getD i 0<β/\a.getD i 0*K%β=a.getD i 0%M*K:=by
 obtain⟨h1,h2,h3,h4,h5⟩:=h
 have hMp:0<M:=by grind
 have ea:=ha.get (show 0<β by omega) i
 have e1:a.getD i 0*K%β=a.getD i 0%M*K:=by rw[<-hM,KL K M,Xb]
 have e2:a.getD i 0 / M<K:=Xg (by rw[KL];omega)
 have e3:a.getD i 0%M<M:=Wu _ hMp
 have e4:a.getD i 0%M*K+K<=β:=by
  rw[<-hM]
  have:=Xh K (show a.getD i 0%M+1<=M from e3)
  grind
 have hKβ:K<=β:=aa
 refine⟨⟨by simp[h1],(h2.set aa).set aa,?_,?_,fun k hk=>?_⟩,aa,e1⟩
 ·rw[jm aW,jP (zB _),val_take aW,jP (zB _),jm aa,jb a,KN,e1]
  have d:=JL (a.getD i 0) M
  grind
 ·grind
 grind [getD_set_ne]
theorem shl_end (h:ShlI β a K i out) (hi:¬i<a.length) (hi2:i<=a.length):Dg β out/\val β out=val β a*K/\out.length=a.length+1:=by
 obtain⟨h1,h2,h3,h4,h5⟩:=h
 grind [kQ,kh]
end
def ShrI (β:Nat) (u:List Nat) (K n i:Nat) (w:List Nat):Prop:=w.length=u.length/\Dg β w/\K*val β (w.take i)+u.getD 0 0%K=val β (u.take i)+u.getD i 0%K*β ^ i/\w.drop i=u.drop i/\i<=n
section
variable {β:Nat} {u w:List Nat} {i n K M:Nat}
theorem shr_init (hd:Dg β u):ShrI β u K n 0 u:=⟨rfl,hd,by simp[val],rfl,zt _⟩
theorem shr_get (h:ShrI β u K n i w) {k:Nat} (hk:i<=k):w.getD k 0=u.getD k 0:=by
 have e:=h.2.2.2.1
 have e1:∀ l:List Nat,l.getD k 0=(l.drop i).getD (k-i) 0:=fun l=>by
  rw[ze,ze,XB,show i+(k-i)=k by omega]
 rw[e1 w,e1 u,e]
theorem shr_next (hβ:2<=β) (hK:0<K) (hM:K*M=β) (h:ShrI β u K n i w) (hi:i<n) (hn:n<u.length) (hu:Dg β u) :
 ShrI β u K n (i+1) (w.set i (u.getD i 0 / K+u.getD (i+1) 0*M%β))/\u.getD i 0 / K+u.getD (i+1) 0*M%β<β/\u.getD (i+1) 0*M%β=u.getD (i+1) 0%K*M/\u.getD i 0 / K<M:=by
 obtain⟨h1,h2,h3,h4,h5⟩:=h
 have hMp:0<M:=by grind
 have ea:=hu.get (show 0<β by omega) i
 have e1:u.getD (i+1) 0*M%β=u.getD (i+1) 0%K*M:=by rw[<-hM,Xb]
 have e2:u.getD i 0 / K<M:=Xg aa
 have e3:u.getD (i+1) 0%K<K:=Wu _ hK
 have e4:u.getD (i+1) 0%K*M+M<=β:=by
  rw[<-hM]
  have:=Xh M (show u.getD (i+1) 0%K+1<=K from e3)
  grind
 refine⟨⟨ZY h1,h2.set aa,?_,?_,aa⟩,aa,e1,e2⟩
 ·rw[val_take aW,jP (zB _),jm aa,jb u,KN,e1]
  have d:=JL (u.getD i 0) K
  generalize u.getD i 0%K=p at*
  generalize u.getD i 0 / K=q at*
  generalize u.getD (i+1) 0%K=r at*
  generalize u.getD 0 0%K=z at*
  subst hM
  grind
 rw[ZT aa,show i+1=i+1 from rfl]
 rw[<-List.drop_drop,<-List.drop_drop,h4]
theorem shr_end (hK:0<K) (hM:K*M=β) {R:Nat} (h:ShrI β u K n i w) (hi:¬i<n) (hv:val β u=R*K) (hz:∀ k,n<=k->u.getD k 0=0) (hn:n<u.length):Dg β (w.take n)/\val β (w.take n)=R:=by
 obtain⟨h1,h2,h3,h4,h5⟩:=h
 have:i=n:=aa
 subst this
 refine⟨h2.take _,?_⟩
 rw[hz i (zB _),<-val_pad hz,hv] at h3
 have e0:u.getD 0 0%K=0:=by
  have e:=val_cut' (β:=β) (l:=u) (k:=0) aa
  rw[ZJ aa,J8] at e
  simp only[val,KO,Wg,KT] at e
  grind [Nat.mul_mod_left,Nat.mul_assoc,Nat.add_mul_mod_self_left]
 rw[e0] at h3
 simp only[Nat.zero_mod,KU,KD] at h3
 exact QI hK (by rw[h3,KL])
end
def GI (β v1 top Q q r:Nat):Prop:=q*v1+r=top/\Q<=q/\q<β
section
variable {β W V T v1 v2 top u2 w0 v0 q r m:Nat}
theorem guess_div (hβ:2<=β) (hW:W=(top*β+u2)*β ^ m+w0) (hV:V=(v1*β+v2)*β ^ m+v0) (hu:u2<β) (hw:w0<β ^ m) (h1:0<v1) (hlt:top / v1<β):GI β v1 top (W / V) (top / v1) (top%v1):=by
 refine⟨Jh top v1,?_,hlt⟩
 have hp:0<β ^ m:=Wj aa
 have hVp:0<V:=by
  rw[hV]
  have:0<(v1*β+v2)*β ^ m:=Wf (by have:=Wf h1 (show 0<β by omega);omega) hp
  omega
 refine X2 (Xg ?_)
 have e:=JL top v1
 have e1:=Wu top h1
 generalize top / v1=q at*
 generalize top%v1=r at*
 have a1:(top*β+u2)*β ^ m+β ^ m<=(top+1)*β*β ^ m:=by
  have:=Xh (β ^ m) (show top*β+u2+1<=(top+1)*β by grind)
  grind
 have a2:(top+1)<=v1*(q+1):=by grind
 have a3:=Xh (β*β ^ m) a2
 have a4:v1*β*β ^ m<=V:=by rw[hV];grind
 have a5:=Xh (q+1) a4
 grind
theorem guess_max (hβ:2<=β) (hQ:W<β*V) (h:top=(β-1)*v1+r):GI β v1 top (W / V) (β-1) r:=by
 refine⟨h.symm,?_,aa⟩
 have:W / V<β:=Xg (by rw[KL];exact hQ)
 omega
theorem guess_less (hW:W=(top*β+u2)*β ^ m+w0) (hV:V=(v1*β+v2)*β ^ m+v0) (hw:w0<β ^ m) (h:GI β v1 top (W / V) q r) (ht:r*β+u2<q*v2):1<=q/\GI β v1 top (W / V) (q-1) (r+v1):=by
 obtain⟨h1,h2,h3⟩:=h
 have h0:1<=q:=by
  rcases XG q with e|e
  ·subst e;omega
  exact e
 refine⟨h0,?_,?_,aa⟩
 ·obtain⟨p,rfl⟩:∃ p,q=p+1:=⟨q-1,aa⟩
  rw[XF];grind
 refine X2 ?_
 rw[show (q-1).succ=q by omega]
 refine Xg ?_
 have a1:top*β+u2+1<=q*(v1*β+v2):=by rw[<-h1];grind
 have a2:=Xh (β ^ m) a1
 rw[hW,hV]
 grind
theorem guess_end (hβ:2<=β) (hW:W=(top*β+u2)*β ^ m+w0) (hV:V=(v1*β+v2)*β ^ m+v0) (hv2:v2<β) (hv0:v0<β ^ m) (hv1:0<v1) (h:GI β v1 top (W / V) q r) (ht:β<=r\/q*v2<=r*β+u2):W / V<=q/\q<=W / V+1/\q<β:=by
 obtain⟨h1,h2,h3⟩:=h
 refine⟨h2,?_,h3⟩
 have hp:0<β ^ m:=Wj aa
 have ht:q*v2<=r*β+u2:=by
  rcases ht with ht|ht
  ·have a:=Ka (show q<=β by omega) (show v2<=β by omega)
   have b:=Xh β ht
   omega
  exact ht
 have hVp:0<V:=by
  rw[hV]
  have:0<(v1*β+v2)*β ^ m:=Wf (by have:=Wf hv1 (show 0<β by omega);omega) hp
  omega
 rcases XG q with e|e
 ·rw[e];exact zt _
 have key:(q-1)*V<=W:=by
  obtain⟨p,rfl⟩:∃ p,q=p+1:=⟨q-1,aa⟩
  rw[XF]
  have a1:(p+1)*(v1*β+v2)<=top*β+u2:=by rw[<-h1];grind
  have a2:=Xh (β ^ m) a1
  have a3:(p+1)*v0<=(v1*β+v2)*β ^ m+v0:=by
   have b1:p*v0<=β*β ^ m:=Ka aa aa
   have b2:β*β ^ m<=(v1*β+v2)*β ^ m:=Xh _ (by have:=Xh β hv1;omega)
   grind
  rw[hW,hV]
  grind
 have:=(Xa hVp).2 key
 omega
end
def MsI (β:Nat) (x v:List Nat) (q i:Nat) (w:List Nat) (c b:Nat):Prop:=w.length=x.length/\Dg β w/\c<β/\b<=1/\val β (w.take i)+q*val β (v.take i)=val β (x.take i)+(c+b)*β ^ i/\w.drop i=x.drop i
section
variable {β:Nat} {x v w:List Nat} {q i c b n:Nat}
theorem drop_getD {w x:List Nat} {i k:Nat} (e:w.drop i=x.drop i) (hk:i<=k):w.getD k 0=x.getD k 0:=by
 have e1:∀ l:List Nat,l.getD k 0=(l.drop i).getD (k-i) 0:=fun l=>by
  rw[ze,ze,XB,show i+(k-i)=k by omega]
 rw[e1 w,e1 x,e]
theorem drop_succ_of {w x:List Nat} {i y:Nat} (e:w.drop i=x.drop i):(w.set i y).drop (i+1)=x.drop (i+1):=by rw[ZT aa,<-List.drop_drop,<-List.drop_drop,e]
theorem ms_init (hβ:2<=β) (hd:Dg β x):MsI β x v q 0 x 0 0:=⟨rfl,hd,aa,zt _,by simp[val],rfl⟩
theorem ms_next (hβ:2<=β) (h:MsI β x v q i w c b) (hi:i<x.length) (hv:Dg β v) (hx:Dg β x) (hq:q<β) :
 MsI β x v q (i+1) (w.set i ((x.getD i 0+β-(q*v.getD i 0+c)%β-b)%β)) ((q*v.getD i 0+c) / β) (if x.getD i 0<(q*v.getD i 0+c)%β+b then 1 else 0):=by
 obtain⟨h1,h2,h3,h4,h5,h6⟩:=h
 have m:=mac2 hq (hv.get aa i) h3
 have lo:(q*v.getD i 0+c)%β<β:=Wu _ aa
 obtain⟨e,lt⟩:=sub64 (hx.get aa i) lo h4
 refine⟨ZY h1,h2.set lt,m.2.2,by split<;>omega,?_,drop_succ_of h6⟩
 rw[val_take aW,jP (zB _),jm aa,jb v,jb x,KN]
 have d:=JL (q*v.getD i 0+c) β
 grind
theorem ms_last (hβ:2<=β) (h:MsI β x v q i w c b) (hi:¬i<n) (hi2:i<=n) (hx:Dg β x) (hl:x.length=n+1) (hv:v.length=n) :
 Dg β (w.set n ((x.getD n 0+β-c-b)%β))/\(w.set n ((x.getD n 0+β-c-b)%β)).length=n+1/\val β (w.set n ((x.getD n 0+β-c-b)%β))+q*val β v=val β x+(if x.getD n 0<c+b then 1 else 0)*β ^ (n+1):=by
 obtain⟨h1,h2,h3,h4,h5,h6⟩:=h
 have:i=n:=aa
 subst this
 obtain⟨e,lt⟩:=sub64 (hx.get aa i) h3 h4
 refine⟨h2.set lt,by simp[h1,hl],?_⟩
 rw[kh (ZY (h1.trans hl)),jP (zB _),jm aa,kh hl,KN]
 grind
end
def BkI (β:Nat) (y v:List Nat) (i:Nat) (w:List Nat) (c:Nat):Prop:=w.length=y.length/\Dg β w/\c<=1/\val β (w.take i)+c*β ^ i=val β (y.take i)+val β (v.take i)/\w.drop i=y.drop i
section
variable {β:Nat} {y v w:List Nat} {i c n:Nat}
theorem bk_init (hd:Dg β y):BkI β y v 0 y 0:=⟨rfl,hd,zt _,by simp[val],rfl⟩
theorem bk_next (hβ:2<=β) (h:BkI β y v i w c) (hi:i<y.length) (hv:Dg β v) (hy:Dg β y):BkI β y v (i+1) (w.set i ((y.getD i 0+v.getD i 0+c)%β)) ((y.getD i 0+v.getD i 0+c) / β):=by
 obtain⟨h1,h2,h3,h4,h5⟩:=h
 have a:=hy.get (show 0<β by omega) i
 have b:=hv.get (show 0<β by omega) i
 refine⟨ZY h1,h2.set (Wu _ aa),?_,?_,drop_succ_of h5⟩
 ·have:(y.getD i 0+v.getD i 0+c) / β<2:=Xg aa
  omega
 rw[val_take aW,jP (zB _),jm aa,jb y,jb v,KN]
 have e:=JL (y.getD i 0+v.getD i 0+c) β
 grind
theorem bk_last (hβ:2<=β) {R:Nat} (h:BkI β y v i w c) (hi:¬i<n) (hi2:i<=n) (hy:Dg β y) (hl:y.length=n+1) (hv:v.length=n) (hR:val β y+val β v=R+β ^ (n+1)) (hlt:R<β ^ n) :
 Dg β (w.set n ((y.getD n 0+c)%β))/\(w.set n ((y.getD n 0+c)%β)).length=n+1/\val β (w.set n ((y.getD n 0+c)%β))=R:=by
 obtain⟨h1,h2,h3,h4,h5⟩:=h
 have:i=n:=aa
 subst this
 have a:=hy.get (show 0<β by omega) i
 have hw:=jR (h2.take i)
 rw[zn,JK aa] at hw
 rw[kQ (l:=v) aa] at h4
 rw[kh hl,KN] at hR
 have e:val β (w.take i)+β ^ i*(y.getD i 0+c)=R+β ^ i*β:=by grind
 have hc:y.getD i 0+c=β:=by
  rcases Nat.lt_trichotomy (y.getD i 0+c) β with g|g|g
  ·have:=Xw (β ^ i) (show y.getD i 0+c+1<=β from g)
   grind
  ·exact g
  omega
 have ev:val β (w.take i)=R:=by rw[hc] at e;omega
 refine⟨h2.set (Wu _ aa),by simp[h1,hl],?_⟩
 rw[kh (ZY (h1.trans hl)),jP (zB _),jm aa,hc,Nat.mod_self,KM,ev,KD]
end
theorem step_fit {β W V q X B:Nat} (hV:0<V) (h1:W / V<=q) (e:X+q*V=W+0*B):q=W / V/\X=W%V:=by
 have hq:q<=W / V:=(Xa hV).2 aa
 have:q=W / V:=aa
 subst this
 refine⟨rfl,?_⟩
 have:=JL W V
 grind
theorem step_over {W V q X B:Nat} (hV:0<V) (h1:W / V<=q) (h2:q<=W / V+1) (hX:X<B) (e:X+q*V=W+1*B):q-1=W / V/\1<=q/\X+V=W%V+B:=by
 have hq:¬q<=W / V:=fun h=>by
  have:=(Xa hV).1 h
  omega
 have e2:q=W / V+1:=aa
 subst e2
 refine⟨XF ..,Nat.succ_pos _,?_⟩
 have:=JL W V
 grind
def fixd (β:Nat):Nat->Nat->List Nat
 | 0,_=>[]
 | n+1,x=>x%β::fixd β n (x / β)
theorem fixd_len (β:Nat):∀ (n x:Nat),(fixd β n x).length=n
 | 0,_=>rfl
 | n+1,x=>by rw[fixd,zb,fixd_len]
theorem fixd_dg {β:Nat} (hβ:2<=β):∀ (n x:Nat),Dg β (fixd β n x)
 | 0,_=>dg_nil β
 | n+1,x=>fun y hy=>by
  rcases zF.1 hy with rfl|hy
  ·exact Wu _ aa
  exact fixd_dg hβ n _ y hy
theorem fixd_val {β:Nat} (hβ:2<=β):∀ {n x:Nat},x<β ^ n->val β (fixd β n x)=x
 | 0,x,h=>by simp only[KO] at h;simp only[fixd,val];omega
 | n+1,x,h=>by
  rw[fixd,val,fixd_val hβ (Xg (by rw[KL,<-Nat.pow_succ];exact h))]
  exact JL x β
theorem fixd_eq {β:Nat} (hβ:2<=β):∀ {l:List Nat} {n x:Nat},Dg β l->l.length=n->val β l=x->l=fixd β n x
 | [],n,x,_,h,_=>by subst h;rfl
 | y::l,n,x,hd,h,e=>by
  subst h e
  rw[zb,fixd,val]
  have h1:=hd.head
  rw[QH,Jm h1,Xf _ _ aa,Ji h1,KT,<-fixd_eq hβ hd.tail Z Z]
def LdI (β:Nat) (A:Nat) (v:List Nat) (j:Nat) (u q:List Nat):Prop:=Dg β u/\Dg β q/\val β u<val β v*β ^ j/\A=val β u+val β v*(β ^ j*val β (q.drop j))
section
variable {β A:Nat} {v u q:List Nat} {j n:Nat}
theorem ld_init (hβ:2<=β) (hd:Dg β u) (hlt:val β u<val β v*β ^ j):LdI β (val β u) v j u (replicate j 0):=⟨hd,dg_zero aa _,hlt,by rw[zM ao];simp[val]⟩
theorem ld_win (hβ:2<=β) (h:LdI β A v (j+1) u q) (hv:Dg β v) (hn:v.length=n) (hl:j+n+1<=u.length):val β ((u.drop j).take (n+1))<β*val β v/\val β u=val β (u.take j)+β ^ j*val β ((u.drop j).take (n+1))/\∀ k,j+n+1<=k->u.getD k 0=0:=by
 obtain⟨h1,h2,h3,h4⟩:=h
 have hV:=jR hv
 rw[hn] at hV
 have hp:0<β ^ (j+1):=Wj aa
 have hz:∀ k,j+n+1<=k->u.getD k 0=0:=fun k hk=>by
  by_cases hkl:k<u.length
  ·have g:=val_ge (β:=β) hkl
   rcases XG (u.getD k 0) with e|e
   ·exact e
   have g2:=Xw (β ^ k) e
   have g3:β ^ (n+(j+1))<=β ^ k:=Xj aa aa
   rw[Wh] at g3
   have g4:=Xh (β ^ (j+1)) (KH hV)
   omega
  grind
 have e1:val β (u.drop j)=val β ((u.drop j).take (n+1)):=val_pad fun i hi=>by
  have:=hz (j+i) aa
  grind
 have e2:=val_cut' (β:=β) (l:=u) (k:=j) aa
 rw[e1] at e2
 refine⟨?_,e2,hz⟩
 have hj:0<β ^ j:=Wj aa
 refine QJ (a:=β ^ j) ?_
 grind
theorem ld_next (hβ:2<=β) (h:LdI β A v (j+1) u q) (hv:Dg β v) (hn:v.length=n) (hl:j+n+1<=u.length) (hq:j<q.length) (hV:0<val β v) {X:List Nat} (hX:X=u.take j++fixd β (n+1) (val β ((u.drop j).take (n+1))%val β v)++u.drop (j+n+1)) :
 LdI β A v j X (q.set j (val β ((u.drop j).take (n+1)) / val β v))/\X.length=u.length:=by
 obtain⟨w1,w2,w3⟩:=ld_win hβ h hv hn hl
 obtain⟨h1,h2,h3,h4⟩:=h
 generalize val β ((u.drop j).take (n+1))=W at*
 have hR:=Wu W hV
 have hVn:=jR hv
 rw[hn] at hVn
 have hfit:W%val β v<β ^ (n+1):=by
  have:β ^ n<=β ^ (n+1):=Xj aa aa
  omega
 have hz:val β (u.drop (j+n+1))=0:=by
  have e:val β (u.drop (j+n+1))=val β ((u.drop (j+n+1)).take 0):=val_pad fun i _=>by
   have:=w3 (j+n+1+i) aa
   grind
  rw[e];rfl
 have hjl:(u.take j).length=j:=by grind
 have eX:val β X=val β (u.take j)+β ^ j*(W%val β v):=by grind [val_app,fixd_val]
 have hlt:W / val β v<β:=Xg aX
 have ht:=jR (h1.take j)
 rw[hjl] at ht
 refine⟨⟨?_,h2.set hlt,?_,?_⟩,?_⟩
 ·rw[hX];exact ((h1.take j).app (fixd_dg hβ _ _)).app (h1.drop _)
 ·rw[eX]
  have g:=Xw (β ^ j) (show W%val β v+1<=val β v from hR)
  grind
 ·have hs:j<(q.set j (W / val β v)).length:=by rw[JB];exact hq
  rw[ZJ hs,jm hq,ZT aa,eX,h4,w2,KN]
  have d:=JL W (val β v)
  generalize W%val β v=R at*
  generalize W / val β v=Q at*
  grind
 rw[hX,za,za,fixd_len,hjl,zo];omega
theorem ld_end (h:LdI β A v 0 u q):val β q=A / val β v/\val β u=A%val β v:=by
 obtain⟨h1,h2,h3,h4⟩:=h
 rw[KO,We] at h3
 rw[KO,Wg,J3] at h4
 rw[h4]
 refine⟨?_,?_⟩
 ·rw[Xf _ _ aa,Ji h3,KT]
 rw[QH,Jm h3]
end
def G2 (v1 top Q q r:Nat):Prop:=q*v1+r=top/\Q<=q
section
variable {β v1 v2 top u2 q r:Nat}
theorem g2_init (hβ:2<=β) (hu:u2<β) (h1:0<v1):G2 v1 top ((top*β+u2) / (v1*β+v2)) (top / v1) (top%v1):=by
 refine⟨Jh top v1,?_⟩
 refine X2 (Xg ?_)
 have e:=JL top v1
 have e1:=Wu top h1
 generalize top / v1=q at*
 generalize top%v1=r at*
 have a2:(top+1)<=v1*(q+1):=by grind
 have a3:=Xh β a2
 grind
theorem g2_q (hβ:2<=β) (hu:u2<β) (hT:top<v1*β+v2):(top*β+u2) / (v1*β+v2)<β:=by
 refine Xg ?_
 have:=Xh β (show top+1<=v1*β+v2 from hT)
 grind
theorem g2_big (hβ:2<=β) (hu:u2<β) (hv2:v2<β) (hT:top<v1*β+v2) (h:G2 v1 top ((top*β+u2) / (v1*β+v2)) q r) (hq:β<=q):r<β/\1<=q/\G2 v1 top ((top*β+u2) / (v1*β+v2)) (q-1) (r+v1):=by
 have hQ:=g2_q hβ hu hT
 obtain⟨h1,h2⟩:=h
 have a:=Xh v1 hq
 refine⟨by grind,aa,?_,aa⟩
 obtain⟨p,rfl⟩:∃ p,q=p+1:=⟨q-1,aa⟩
 rw[XF];grind
theorem g2_less (h:G2 v1 top ((top*β+u2) / (v1*β+v2)) q r) (ht:r*β+u2<q*v2):1<=q/\G2 v1 top ((top*β+u2) / (v1*β+v2)) (q-1) (r+v1):=by
 obtain⟨h1,h2⟩:=h
 have h0:1<=q:=by grind
 obtain⟨p,rfl⟩:∃ p,q=p+1:=⟨q-1,aa⟩
 refine⟨h0,?_,?_⟩
 ·grind
 refine X2 ?_
 rw[XF]
 refine Xg ?_
 rw[<-h1];grind
theorem g2_test (h1:0<v1) (hβ:2<=β) (h:G2 v1 top ((top*β+u2) / (v1*β+v2)) q r) (ht:q*v2<=r*β+u2):q=(top*β+u2) / (v1*β+v2):=by
 obtain⟨e,h2⟩:=h
 have hp:0<v1*β+v2:=by
  have:=Wf h1 (show 0<β by omega)
  omega
 refine JI ((Xa hp).2 ?_) h2
 rw[<-e];grind
theorem g2_over (h1:0<v1) (hβ:2<=β) (hu:u2<β) (hv2:v2<β) (hT:top<v1*β+v2) (h:G2 v1 top ((top*β+u2) / (v1*β+v2)) q r) (hr:β<=r):q=(top*β+u2) / (v1*β+v2):=by
 refine g2_test h1 hβ h ?_
 have hq:q<β:=by
  rcases KJ q β with g|g
  ·exact g
  have:=(g2_big hβ hu hv2 hT h g).1;omega
 have a:=Ka (KH hq) (KH hv2)
 have b:=Xh β hr
 omega
end
theorem div_halves {hi lo y K M h a b:Nat} (hK:K*M=h*h) (hh:2<=h) (hy:0<y) (hlt:hi<y) (hlo:lo<h*h) (ha:a=(lo*K%(h*h)) / h) (hb:b=(lo*K%(h*h))%h) :
 (((hi*K+lo / M)*h+a) / (y*K)*h+(((hi*K+lo / M)*h+a)%(y*K)*h+b) / (y*K))=(hi*(h*h)+lo) / y/\((((hi*K+lo / M)*h+a)%(y*K)*h+b)%(y*K)) / K=(hi*(h*h)+lo)%y/\hi*K+lo / M<y*K/\lo / M<K/\0<K:=by
 have hKp:0<K:=by grind
 have hMp:0<M:=by grind
 have e2:lo / M<K:=Xg (by rw[KL,hK];exact hlo)
 have e3:lo*K=lo / M*(h*h)+lo*K%(h*h):=by
  have e:=JL (lo*K) (h*h)
  grind [Nat.mul_comm,Nat.mul_div_mul_right,Nat.add_comm]
 have e5:lo*K%(h*h)=a*h+b:=by
  rw[ha,hb]
  exact (Jh _ _).symm
 have hV:0<y*K:=Wf hy hKp
 have hT:hi*K+lo / M<y*K:=by
  have:=Xh K (show hi+1<=y from hlt)
  grind
 have A:(hi*(h*h)+lo)*K=((hi*K+lo / M)*h+a)*h+b:=by grind
 have d:=JL ((hi*K+lo / M)*h+a) (y*K)
 generalize ((hi*K+lo / M)*h+a)%(y*K)=r1 at*
 generalize ((hi*K+lo / M)*h+a) / (y*K)=q1 at*
 have A2:(hi*(h*h)+lo)*K=(y*K)*(q1*h)+(r1*h+b):=by rw[A,<-d];grind
 refine⟨?_,?_,hT,e2,hKp⟩
 ·rw[<-Nat.mul_div_mul_right _ y hKp,A2,Nat.mul_add_div hV]
 have:(hi*(h*h)+lo)%y*K=(r1*h+b)%(y*K):=by
  rw[<-Nat.mul_mod_mul_right,A2,Nat.mul_add_mod]
 rw[<-this,Nat.mul_div_cancel _ hKp]
def q9 (n:Nat):Nat:=if n=0 then 0 else n.log2+1
theorem kw (n:Nat):n<2 ^ q9 n:=by
 unfold q9
 split
 ·rename_i h;rw[h];decide
 exact Nat.lt_log2_self
theorem blen_le {n:Nat} (h:n≠0):2 ^ (q9 n-1)<=n:=by
 unfold q9
 rw[WJ h,XF]
 exact Nat.log2_self_le h
theorem blen_unique {n k:Nat} (h1:2 ^ k<=n) (h2:n<2 ^ (k+1)):q9 n=k+1:=by
 have h0:n≠0:=aa
 have a:=kw n
 have b:=blen_le h0
 have c:k<q9 n:=by
  rcases KJ k (q9 n) with g|g
  ·exact g
  have:=Xj (show 0<2 by decide) g
  omega
 have d:q9 n-1<k+1:=by
  rcases KJ (q9 n-1) (k+1) with g|g
  ·exact g
  have:=Xj (show 0<2 by decide) g
  omega
 omega
theorem blen_shift {n k:Nat} (h:2 ^ k<=n):q9 n=k+q9 (n / 2 ^ k):=by
 have hp:=Wj (n:=k) (show 0<2 by decide)
 have h0:n / 2 ^ k≠0:=by have:=Wb h hp;omega
 have a:=kw (n / 2 ^ k)
 have b:=blen_le h0
 have hb:q9 (n / 2 ^ k)≠0:=by unfold q9;rw[WJ h0];omega
 have e:k+q9 (n / 2 ^ k)=(k+(q9 (n / 2 ^ k)-1))+1:=aa
 rw[e]
 refine blen_unique ?_ ?_
 ·rw[Wh]
  have:=(Xa hp).1 b
  rw[KL];exact this
 have:=(Q9 hp).1 a
 rw[<-e,Wh,KL];exact this
end Go.Lens.Un
end
section
namespace Go.Lens
variable [Lz]
abbrev vU (n:Nat):DV:=.pv (.lit (.int .u64 (n:Int)))
abbrev eU (n:Nat):List PV:=[.lit (.int .u64 (n:Int))]
abbrev B64:Nat:=18446744073709551616
theorem qM:2<=B64:=ah
section
variable {P:Program} {Y:Tab} [qH P Y] {nb:Nat} {s:St} {dst:Option Tmp} {ty u:TypeId} {pos:String} {af:Array Edge} {gd:Option (Nat×Bool)} {t:TypeId} {x y z:Operand} {a b:Nat}
theorem B.addN (hx:ev1 s x=vU a) (hy:ev1 s y=vU b) (h:a+b<B64):Body P Y nb s ⟨dst,.binOp .add t x y u,ty,pos,af,gd⟩ (vU (a+b)) [] []:=by
 have:=B.addV (P:=P) (Y:=Y) (nb:=nb) (dst:=dst) (ty:=ty) (u:=u) (pos:=pos) (af:=af) (gd:=gd) (t:=t) hx hy ⟨aa,by unfold B64 at h;omega⟩
 exact this
theorem B.addM (hx:ev1 s x=vU a) (hy:ev1 s y=vU b):Body P Y nb s ⟨dst,.binOp .add t x y u,ty,pos,af,gd⟩ (vU ((a+b)%B64)) [] []:=
 B.addU (P:=P) (Y:=Y) (nb:=nb) (dst:=dst) (ty:=ty) (u:=u) (pos:=pos) (af:=af) (gd:=gd) (t:=t) hx hy
theorem B.subN (hx:ev1 s x=vU a) (hy:ev1 s y=vU b) (h:b<=a) (ha:a<B64):Body P Y nb s ⟨dst,.binOp .sub t x y u,ty,pos,af,gd⟩ (vU (a-b)) [] []:=by
 have:=B.subV (P:=P) (Y:=Y) (nb:=nb) (dst:=dst) (ty:=ty) (u:=u) (pos:=pos) (af:=af) (gd:=gd) (t:=t) hx hy ⟨aa,by unfold B64 at ha;omega⟩
 rw[show (a:Int)-(b:Int)=((a-b:Nat):Int) by omega] at this
 exact this
theorem B.subF (c:Nat) (hx:ev1 s x=vU a) (hy:ev1 s y=vU (b%B64)) (hb:b<=c) (hlt:c-b<B64) (hc:a%B64=c%B64):Body P Y nb s ⟨dst,.binOp .sub t x y u,ty,pos,af,gd⟩ (vU (c-b)) [] []:=by
 have:=B.subU (P:=P) (Y:=Y) (nb:=nb) (dst:=dst) (ty:=ty) (u:=u) (pos:=pos) (af:=af) (gd:=gd) (t:=t) hx hy
 have e:(((a:Nat):Int)-((b%B64:Nat):Int))%18446744073709551616=((c-b:Nat):Int):=by grind
 rw[e] at this
 exact this
theorem B.mulN (hx:ev1 s x=vU a) (hy:ev1 s y=vU b) (h:a*b<B64):Body P Y nb s ⟨dst,.binOp .mul t x y u,ty,pos,af,gd⟩ (vU (a*b)) [] []:=by
 have:=B.mulV (P:=P) (Y:=Y) (nb:=nb) (dst:=dst) (ty:=ty) (u:=u) (pos:=pos) (af:=af) (gd:=gd) (t:=t) hx hy ⟨by rw[<-Int.natCast_mul];omega,by rw[<-Int.natCast_mul];unfold B64 at h;omega⟩
 rw[<-Int.natCast_mul] at this
 exact this
theorem B.mulM (hx:ev1 s x=vU a) (hy:ev1 s y=vU b):Body P Y nb s ⟨dst,.binOp .mul t x y u,ty,pos,af,gd⟩ (vU (a*b%B64)) [] []:=by
 have:=B.mulU (P:=P) (Y:=Y) (nb:=nb) (dst:=dst) (ty:=ty) (u:=u) (pos:=pos) (af:=af) (gd:=gd) (t:=t) hx hy
 rw[<-Int.natCast_mul] at this
 exact this
theorem B.quoM (hx:ev1 s x=vU a) (hy:ev1 s y=vU b) (h:a<B64) (hb:0<b):Body P Y nb s ⟨dst,.binOp .quo t x y u,ty,pos,af,gd⟩ (vU (a / b)) [] []:=by
 have:=B.quoU (P:=P) (Y:=Y) (nb:=nb) (dst:=dst) (ty:=ty) (u:=u) (pos:=pos) (af:=af) (gd:=gd) (t:=t) hx hy ⟨aa,by unfold B64 at h;omega,aa⟩
 rw[<-Int.natCast_ediv] at this
 exact this
theorem B.remM (hx:ev1 s x=vU a) (hy:ev1 s y=vU b) (hb:0<b):Body P Y nb s ⟨dst,.binOp .rem t x y u,ty,pos,af,gd⟩ (vU (a%b)) [] []:=by
 have:=B.remU (P:=P) (Y:=Y) (nb:=nb) (dst:=dst) (ty:=ty) (u:=u) (pos:=pos) (af:=af) (gd:=gd) (t:=t) hx hy ⟨aa,aa⟩
 rw[<-Int.natCast_emod] at this
 exact this
theorem pow_min {b K:Nat} (h:b<=64) (hK:2 ^ b=K):(2:Int) ^ (Min.min (b:Int).toNat 64)=(K:Int):=by grind
theorem B.shrM {K:Nat} (hx:ev1 s x=vU a) (hy:ev1 s y=vU b) (hb:b<=64) (hK:2 ^ b=K):Body P Y nb s ⟨dst,.binOp .shr t x y u,ty,pos,af,gd⟩ (vU (a / K)) [] []:=by
 have:=B.shrU (P:=P) (Y:=Y) (nb:=nb) (dst:=dst) (ty:=ty) (u:=u) (pos:=pos) (af:=af) (gd:=gd) (t:=t) hx hy aa (pow_min hb hK)
 rw[<-Int.natCast_ediv] at this
 exact this
theorem B.shlM {K:Nat} (hx:ev1 s x=vU a) (hy:ev1 s y=vU b) (hb:b<=64) (hK:2 ^ b=K):Body P Y nb s ⟨dst,.binOp .shl t x y u,ty,pos,af,gd⟩ (vU (a*K%B64)) [] []:=by
 have:=B.shlU (P:=P) (Y:=Y) (nb:=nb) (dst:=dst) (ty:=ty) (u:=u) (pos:=pos) (af:=af) (gd:=gd) (t:=t) hx hy aa (pow_min hb hK)
 rw[<-Int.natCast_mul] at this
 exact this
theorem B.shlN {K:Nat} (hx:ev1 s x=vU a) (hy:ev1 s y=vU b) (hb:b<=64) (hK:2 ^ b=K) (h:a*K<B64):Body P Y nb s ⟨dst,.binOp .shl t x y u,ty,pos,af,gd⟩ (vU (a*K)) [] []:=by
 have:=B.shlM (P:=P) (Y:=Y) (nb:=nb) (dst:=dst) (ty:=ty) (u:=u) (pos:=pos) (af:=af) (gd:=gd) (t:=t) hx hy hb hK
 rwa [Jm h] at this
theorem B.shrJ {K:Nat} {m:Int} (hx:ev1 s x=vU a) (hy:ev1 s y=lit (.int .i64 m)) (hm:m=(b:Int)) (hb:b<=64) (hK:2 ^ b=K):Body P Y nb s ⟨dst,.binOp .shr t x y u,ty,pos,af,gd⟩ (vU (a / K)) [] []:=by
 subst hm
 have:=B.shrU (P:=P) (Y:=Y) (nb:=nb) (dst:=dst) (ty:=ty) (u:=u) (pos:=pos) (af:=af) (gd:=gd) (t:=t) hx hy aa (pow_min hb hK)
 rw[<-Int.natCast_ediv] at this
 exact this
theorem B.shlJ {K:Nat} {m:Int} (hx:ev1 s x=vU a) (hy:ev1 s y=lit (.int .i64 m)) (hm:m=(b:Int)) (hb:b<=64) (hK:2 ^ b=K):Body P Y nb s ⟨dst,.binOp .shl t x y u,ty,pos,af,gd⟩ (vU (a*K%B64)) [] []:=by
 subst hm
 have:=B.shlU (P:=P) (Y:=Y) (nb:=nb) (dst:=dst) (ty:=ty) (u:=u) (pos:=pos) (af:=af) (gd:=gd) (t:=t) hx hy aa (pow_min hb hK)
 rw[<-Int.natCast_mul] at this
 exact this
theorem B.andK (k K:Nat) (hx:ev1 s x=vU a) (hy:ev1 s y=vU b) (h:a<B64) (hk:k<=64) (hb:b=2 ^ k-1) (hK:2 ^ k=K):Body P Y nb s ⟨dst,.binOp .and t x y u,ty,pos,af,gd⟩ (vU (a%K)) [] []:=by
 have:=B.andM (P:=P) (Y:=Y) (nb:=nb) (dst:=dst) (ty:=ty) (u:=u) (pos:=pos) (af:=af) (gd:=gd) (t:=t) k hx hy ⟨aa,by unfold B64 at h;omega⟩ hk (by rw[hb])
 rw[<-Int.natCast_emod,hK] at this
 exact this
theorem B.orN (k:Nat) {c K:Nat} (hx:ev1 s x=vU a) (hy:ev1 s y=vU b) (hK:2 ^ k=K) (ha:a=c*K) (hb:b<K) (h:a+b<B64):Body P Y nb s ⟨dst,.binOp .or t x y u,ty,pos,af,gd⟩ (vU (a+b)) [] []:=by
 have:=B.orV (P:=P) (Y:=Y) (nb:=nb) (dst:=dst) (ty:=ty) (u:=u) (pos:=pos) (af:=af) (gd:=gd) (t:=t) k (c:=(c:Int)) hx hy (by rw[hK,ha,Jx]) aa ⟨aa,by rw[hK];omega⟩ (by unfold B64 at h;omega)
 exact this
theorem B.orC (k:Nat) {c K:Nat} (hx:ev1 s x=vU a) (hy:ev1 s y=vU b) (hK:2 ^ k=K) (ha:a<K) (hb:b=c*K) (h:a+b<B64):Body P Y nb s ⟨dst,.binOp .or t x y u,ty,pos,af,gd⟩ (vU (a+b)) [] []:=by
 refine B.bin hx hy ?_
 show qE (some (true,lit (.int .u64 (IntKind.wrap .u64 ((BitVec.ofInt 64 (a:Int) |||BitVec.ofInt 64 (b:Int)).toNat:Nat)))))=_
 have hs:a+b<2 ^ 64:=h
 rw[BitVec.toNat_or,bv_nat aa,bv_nat aa,wrap_u64]
 have e:a |||b=a+b:=by rw[hb,<-hK,Nat.or_comm,KL,<-Nat.two_pow_add_eq_or_of_lt (by rw[hK];exact ha),KC]
 rw[e,XR aa aa];rfl
theorem B.toUN {k:IntKind} {m:Int} {n:Nat} {t':TypeId} {d:TypeDesc} (hx:ev1 s x=lit (.int k m)) (hu:Y.underlying t=some d) (hu':Y.underlying t'=some (.int .u64)) (h:m%18446744073709551616=(n:Int)) (hs:s2bV Y t t' (lit (.int k m))=none) :
  Body P Y nb s ⟨dst,.convert t t' x,ty,pos,af,gd⟩ (vU n) [] []:=by
 have:=B.toU (P:=P) (Y:=Y) (nb:=nb) (dst:=dst) (ty:=ty) (pos:=pos) (af:=af) (gd:=gd) (t:=t) hx hu hu' hs
 rwa [h] at this
theorem B.toBN {k:IntKind} {m:Int} {t':TypeId} {d:TypeDesc} (hx:ev1 s x=lit (.int k m)) (hu:Y.underlying t=some d) (hu':Y.underlying t'=some (.int .u8)) (h:0<=m/\m<256) (hs:s2bV Y t t' (lit (.int k m))=none) :
  Body P Y nb s ⟨dst,.convert t t' x,ty,pos,af,gd⟩ (lit (.int .u8 m)) [] []:=by
 refine B.pure (lo:=0) (nm:=0) (kn P) ?_ ?_
 ·intro z hz
  have:z=x:=by simpa [Op.operands] using hz
  rw[this,hx];rfl
 have e1:evU (tmpsOf [x]) s x=_:=(qR ao).trans hx
 show (match s2bV Y t t' (evU (tmpsOf [x]) s x) with|some ⟨true,v,m⟩=>some (v,m)|some _=>none|none=>qE (convW Y t t' (qr []) (evU (tmpsOf [x]) s x)))=_
 rw[e1,hs]
 show qE (convQ Y t t' (lit (.int k m)))=_
 unfold convQ lit
 rw[hu,hu']
 show qE (some (true,lit (.int .u8 (IntKind.wrap .u8 m))))=_
 rw[wrap_u8 h.1 h.2];rfl
end
def inW {α:Type} (p w t:List α):List α:=p++(w++t)
section
variable {α:Type} {p w t:List α} {n:Nat} {z:α}
theorem inW_len:(inW p w t).length=p.length+(w.length+t.length):=by simp[inW]
theorem inW_get (h:n<w.length):(inW p w t).getD (p.length+n) z=w.getD n z:=by grind [inW,Nat.add_sub_cancel_left]
theorem inW_set (h:n<w.length):(inW p w t).set (p.length+n) z=inW p (w.set n z) t:=by grind [inW,List.set_append_right,Nat.add_sub_cancel_left,List.set_append_left]
theorem inW_mk {l:List α} {j c:Nat} (h:j+c<=l.length):l=inW (l.take j) ((l.drop j).take c) (l.drop (j+c))/\(l.take j).length=j/\((l.drop j).take c).length=c:=by
 refine⟨?_,by rw[zn];omega,by rw[zn,zo];omega⟩
 grind [inW,List.drop_drop,List.take_append_drop]
end
section
variable {P:Program} {Y:Tab} [qH P Y] {nb:Nat} {s:St} {dst:Option Tmp} {ty u:TypeId} {pos:String} {af:Array Edge} {gd:Option (Nat×Bool)} {t:TypeId} {x y z:Operand}
theorem B.loadW {α:Type} {enc:α->List PV} {p w q:List α} {z0:α} {pv:PV} {h v sz n:Nat} {T:TypeId} (hx:ev1 s x=.eref h v (p.length+n) 0) (hm:qr s.ms h=some (.arr v sz T ((inW p w q).map enc))) (ha:aggT Y t=some false) (hs:szT Y t=some 1)
  (hlt:n<w.length) (hz:enc (w.getD n z0)=[pv]):Body P Y nb s ⟨dst,.load t x,ty,pos,af,gd⟩ (.pv pv) [] [h]:=
 B.loadE (z0:=z0) hx hm ha hs aY (by rw[inW_get hlt];exact hz)
theorem B.setW {α:Type} {enc:α->List PV} {p w q:List α} {z0:α} {pv:PV} {h v n:Nat} {T:TypeId} (hx:ev1 s x=.eref h v (p.length+n) 0) (hm:qr s.ms h=some (.arr v 1 T ((inW p w q).map enc))) (hy:ev1 s y=.pv pv) (hz:enc z0=[pv]) (hc:Z9 pv=[pv])
  (hs:szT Y t=some 1) (hlt:n<w.length) (hsz:∀ a,(enc a).length=1):Body P Y nb s ⟨dst,.store t x y,ty,pos,af,gd⟩ .dead [(h,.arr v 1 T ((inW p (w.set n z0) q).map enc))] [h]:=by
 rw[<-inW_set hlt]
 exact B.setE hx hm hy hz hc hs aY hsz
theorem B.makeSV {α:Type} {enc:α->List PV} {z0:α} {n m d h sz bs:Nat} {ni mi:Int} {e:TypeId} {i:TypeInfo} {zv:Value} (hx:ev1 s x=lit (.int .i64 ni)) (hy:ev1 s y=lit (.int .i64 mi)) (hni:ni=(n:Int)) (hmi:mi=(m:Int)) (und:Y.underlying t=some (.slice e)) (hi:Y.info? e=some i)
  (hz:i.zero=some zv) (hc:Z7 zv.cells.toList=some (enc z0)) (hq:(Nat.blt 0 i.size&&Nat.beq zv.cells.size i.size&&Nat.beq i.size sz)=true) (hb:i.bytes=bs)
  (hle:n<=m/\bs*m<=281474976710656/\m<=9223372036854775807) (hh:nameOf nb s.ms (some d)=h) (hm:jH s.ms h=false) :
  Body P Y nb s ⟨some d,.makeSlice t x y,ty,pos,af,gd⟩ (.aref h 0) [(h,.arr 0 sz e ((replicate n z0).map enc))] []:=by
 subst hni
 exact B.makeSl hx hy hmi und hi hz hc hq hb hle hh hm
theorem B.slV {α:Type} {enc:α->List PV} {l:List α} {lo hi:Operand} {h v sz i c:Nat} {k k2:IntKind} {n m:Int} {e T:TypeId} (hx:ev1 s x=.aref h v) (hm:qr s.ms h=some (.arr v sz T (l.map enc))) (hlo:ev1 s lo=lit (.int k n)) (hhi:ev1 s hi=lit (.int k2 m)) (und:Y.underlying t=some (.slice e)) (hs:szT Y e=some sz)
  (hn:n=(i:Int)) (hmm:m=((i+c:Nat):Int)) (hc:0<c) (hj:i+c<=l.length):Body P Y nb s ⟨dst,.slice t x (some lo) (some hi) none,ty,pos,af,gd⟩ (.awin h v i c) [] [h]:=by
 have:=B.slW (P:=P) (Y:=Y) (nb:=nb) (dst:=dst) (ty:=ty) (pos:=pos) (af:=af) (gd:=gd) hx hm hlo hhi und hs hn hmm aa hj
 grind
end
end Go.Lens
end
section
namespace Go.Lens.Un
abbrev NI:=Int×Bool
abbrev I63:Nat:=9223372036854775808
def jo (z:Int):NI:=(z,decide (I63<=z.natAbs))
def q6 (s:Bool) (n:Nat):NI:=jo (bif s then -(n:Int) else (n:Int))
def ofI (z:Int):NI:=(z,false)
def negI (x:NI):NI:=bif x.2 then jo (-x.1) else if x.1= -9223372036854775808 then jo (-x.1) else (-x.1,false)
def absI (x:NI):NI:=if x.1<0 then negI x else x
def addI (x y:NI):NI:=bif x.2||y.2 then jo (x.1+y.1) else if -9223372036854775808<=x.1+y.1/\x.1+y.1<=9223372036854775807 then (x.1+y.1,false) else jo (x.1+y.1)
def subI (x y:NI):NI:=addI x (negI y)
def kD (x y:NI):NI:=jo (x.1*y.1)
def j8 (z:Int):Int:=if z<0 then -1 else if z=0 then 0 else 1
def divI (x y:NI):NI:=bif x.2||y.2||decide (x.1= -9223372036854775808) then (bif decide (j8 (q6 (decide (x.1<0)) (x.1.natAbs%y.1.natAbs)).1<0) then subI (q6 (decide (x.1<0)) (x.1.natAbs / y.1.natAbs)) (ofI 1) else q6 (decide (x.1<0)) (x.1.natAbs / y.1.natAbs)) else (x.1 / y.1,false)
def modI (x y:NI):NI:=bif x.2||y.2||decide (x.1= -9223372036854775808) then (bif decide (j8 (q6 (decide (x.1<0)) (x.1.natAbs%y.1.natAbs)).1<0) then addI (q6 (decide (x.1<0)) (x.1.natAbs%y.1.natAbs)) y else q6 (decide (x.1<0)) (x.1.natAbs%y.1.natAbs)) else (x.1%y.1,false)
def nH (x:NI):Int:=bif x.2 then (if x.1<0 then -1 else 1) else x.1
def okI (x:NI):Prop:=if x.2 then I63<=x.1.natAbs else -9223372036854775808<=x.1/\x.1<=9223372036854775807
theorem Zl (z:Int):(jo z).1=z:=rfl
theorem jN (z:Int):okI (jo z):=by
 unfold okI jo
 grind
theorem ofI_ok {z:Int} (h: -9223372036854775808<=z/\z<=9223372036854775807):okI (ofI z):=by grind [okI,ofI]
theorem kS (x:NI):(negI x).1= -x.1:=by
 obtain⟨z,b⟩:=x
 cases b
 ·unfold negI
  simp only[Ww]
  split<;>rfl
 rfl
theorem ZA {x:NI} (h:okI x):okI (negI x):=by
 obtain⟨z,b⟩:=x
 cases b
 ·unfold negI
  simp only[Ww]
  split
  ·exact jN _
  unfold okI at h ⊢
  simp only[qk,qm] at h ⊢
  omega
 exact jN _
theorem absI_1 (x:NI):(absI x).1=(x.1.natAbs:Int):=by grind [absI,kS]
theorem absI_ok {x:NI} (h:okI x):okI (absI x):=by
 unfold absI
 split
 ·exact ZA h
 exact h
theorem addI_1 (x y:NI):(addI x y).1=x.1+y.1:=by
 unfold addI
 cases x.2||y.2
 ·simp only[Ww];split<;>rfl
 rfl
theorem kM (x y:NI):okI (addI x y):=by
 unfold addI
 cases x.2||y.2
 ·simp only[Ww]
  split
  ·rename_i h
   unfold okI
   grind
  exact jN _
 exact jN _
theorem subI_1 (x y:NI):(subI x y).1=x.1-y.1:=by unfold subI;rw[addI_1,kS];omega
theorem subI_ok (x y:NI):okI (subI x y):=kM _ _
theorem mulI_1 (x y:NI):(kD x y).1=x.1*y.1:=rfl
theorem km (x y:NI):okI (kD x y):=jN _
end Go.Lens.Un
end
section
namespace Go.Lens
variable [Lz]
def dz:DV->Option PV
 | .nils=>some (.lit (.slice none 0 0))
 | .pv p=>some p
 | _=>none
def dzL:List DV->Option (List PV)
 | []=>some []
 | d::ds=>match dz d,dzL ds with
  | some p,some ps=>some (p::ps)
  | _,_=>none
theorem dz_ok {G:Gh} {R:Rd} {d:DV} {p:PV} {v:Value} (h:dz d=some p) (hv:qt G R d v):qI R p v:=by
 cases d with
 | nils=>
  cases h
  simp only[qt] at hv
  subst hv
  simp only[qI]
  exact⟨trivial,rfl⟩
 | pv q=>cases h;simpa only[qt] using hv
 | _=>cases h
theorem dzL_ok {G:Gh} {R:Rd}:∀ {ds:List DV} {ps:List PV} {vs:List Value},dzL ds=some ps->qz G R ds vs->qw R ps vs
 | [],ps,vs,h,hv=>by
  cases h
  simpa only[qz,qw] using hv
 | d::ds,ps,vs,h,hv=>by
  simp only[dzL] at h
  split at h
  ·rename_i p q h1 h2
   cases h
   simp only[qz] at hv
   obtain⟨v,vs',rfl,k1,k2⟩:=hv
   simp only[qw]
   exact⟨v,vs',rfl,dz_ok h1 k1,dzL_ok h2 k2⟩
  cases h
theorem Frz.aggZ (l:Na) {ds:List DV} {ps:List PV} (hd:dzL ds=some ps):Frz l (.agg ds) [] (.pv (.agg ps)) []:=by
 intro G w G1 w1 r M S
 have hv:=S.hval
 simp only[qt] at hv
 obtain⟨vs,rfl,ho,hvs⟩:=hv
 refine⟨G1,{ S with hval:=?_,refs:=by simp[DV.refs] }⟩
 simp only[qt,qI]
 exact⟨vs,rfl,ho,dzL_ok hd hvs⟩
theorem Frz.boxZ (l:Na) {h:Nat} {T:TypeId} {ds:List DV} {ps:List PV} (hd:dzL ds=some ps):Frz l (.bref h 0) [(h,.box T ds)] (.bref h 0) [(h,.box T (ps.map .pv))]:=by
 intro G w G1 w1 r M S
 have hb:=S.hms h _ (by simp:(h,MO.box T ds)∈[(h,MO.box T ds)])
 refine⟨G1,{ S with hms:=?_,old:=by simpa using S.old,own:=by simpa using S.own,refs:=by simpa using S.refs,refsM:=?_ }⟩
 ·intro k o hk
  simp only[zg,zx] at hk
  obtain⟨rfl,rfl⟩:=hk
  simp only[qW] at hb ⊢
  obtain⟨e1,b,c,e2,e3,e4,e5,e6⟩:=hb
  exact⟨e1,b,c,e2,e3,e4,e5,relDVs_pv (dzL_ok hd e6)⟩
 grind [List.mem_singleton,Prod.mk.injEq,MO.refs,refsL_pv]
def nW (x:Un.NI):PV:=bif x.2 then .slice (List.map eU (Un.dig B64 x.1.natAbs)) else .lit (.slice none 0 0)
section
variable {P:Program} {Y:Tab} [qH P Y] {nb:Nat} {s:St} {dst:Option Tmp} {ty u:TypeId} {pos:String} {af:Array Edge} {gd:Option (Nat×Bool)} {t:TypeId} {x y z:Operand}
theorem B.bnB {p q:Bool} (hx:ev1 s x=lit (.bool p)) (hy:ev1 s y=lit (.bool q)) (und:Y.underlying t=some .bool):Body P Y nb s ⟨dst,.binOp .neq t x y u,ty,pos,af,gd⟩ (lit (.bool (!(p==q)))) [] []:=by
 refine B.bin hx hy ?_
 have h3:binQ Y .neq t (lit (.bool p)) (lit (.bool q))=some (true,lit (.bool (!(p==q)))):=by simp only[binQ,lit,und]
 show qE (binW Y .neq t (qr []) (Z2 y) (lit (.bool p)) (lit (.bool q)))=_
 have h4:binW Y .neq t (qr []) (Z2 y) (lit (.bool p)) (lit (.bool q))=some (true,lit (.bool (!(p==q)))):=by
  unfold binW
  simp only[lit] at h3 ⊢
  simp only[nilQ,nilKind,samePQ,h3]
 rw[h4];rfl
end
end Go.Lens
end
section
namespace Go.Lens.Un
theorem madeN_1 (s:Bool) (n:Nat):(q6 s n).1=bif s then -(n:Int) else (n:Int):=rfl
theorem Zy {z:Int}:j8 z<0↔z<0:=by grind [j8]
theorem dm_val (x y:NI) (hy:0<y.1):(divI x y).1=x.1 / y.1/\(modI x y).1=x.1%y.1:=by
 unfold divI modI
 cases h:x.2||y.2||decide (x.1= -9223372036854775808)
 ·exact⟨rfl,rfl⟩
 simp only[Wy]
 suffices h:x.1 / y.1=(bif decide (j8 (q6 (decide (x.1<0)) (x.1.natAbs%y.1.natAbs)).1<0) then subI (q6 (decide (x.1<0)) (x.1.natAbs / y.1.natAbs)) (ofI 1) else q6 (decide (x.1<0)) (x.1.natAbs / y.1.natAbs)).1/\
   x.1%y.1=(bif decide (j8 (q6 (decide (x.1<0)) (x.1.natAbs%y.1.natAbs)).1<0) then addI (q6 (decide (x.1<0)) (x.1.natAbs%y.1.natAbs)) y else q6 (decide (x.1<0)) (x.1.natAbs%y.1.natAbs)).1 from ⟨h.1.symm,h.2.symm⟩
 generalize x.1=a at*
 obtain⟨b,yb⟩:=y
 simp only at*
 obtain⟨B,rfl⟩:∃ B:Nat,b=B:=⟨b.toNat,aa⟩
 have h1:=JF a.natAbs B
 have h2:=Wu a.natAbs (show 0<B by omega)
 rw[XA]
 generalize a.natAbs / B=X at*
 generalize a.natAbs%B=Y at*
 refine (Xd hy).2 ?_
 have h3:(B:Int)*(X:Int)+Y=a.natAbs:=by rw[<-Int.natCast_mul];omega
 by_cases ha:a<0
 ·rw[zl ha]
  by_cases hY:Y=0
  ·subst hY
   have e:decide (j8 (q6 true 0).1<0)=false:=ah
   rw[e]
   simp only[Ww,madeN_1,Wy,K4]
   omega
  have e:decide (j8 (q6 true Y).1<0)=true:=zl (Zy.2 (by rw[madeN_1,Wy];omega))
  rw[e]
  simp only[Wy,subI_1,addI_1,madeN_1,ofI,Int.mul_sub,K4,K5]
  omega
 rw[zk ha]
 have e:decide (j8 (q6 false Y).1<0)=false:=zk (fun h=>by have:=Zy.1 h;rw[madeN_1,Ww] at this;omega)
 rw[e]
 simp only[Ww,madeN_1]
 omega
theorem divI_1 {x y:NI} (hy:0<y.1):(divI x y).1=x.1 / y.1:=(dm_val x y hy).1
theorem modI_1 {x y:NI} (hy:0<y.1):(modI x y).1=x.1%y.1:=(dm_val x y hy).2
theorem dm_ok {x y:NI} (hx:okI x) (hy:okI y) (hp:0<y.1):okI (divI x y)/\okI (modI x y):=by
 have hd:=dm_val x y hp
 unfold divI modI at*
 cases h:x.2||y.2||decide (x.1= -9223372036854775808)
 ·rw[h] at hd
  simp only[Ww] at hd ⊢
  have hx2:x.2=false:=by cases e:x.2<;>simp_all
  have hy2:y.2=false:=by cases e:y.2<;>simp_all
  unfold okI at*
  rw[hx2,WJ ao] at hx
  rw[hy2,WJ ao] at hy
  rw[WJ ao,WJ ao]
  have h1:=Jt x.1 (show y.1≠0 by omega)
  have h2:=Int.emod_lt_of_pos x.1 hp
  refine⟨?_,by simp only;omega⟩
  simp only
  have h3:=Int.mul_ediv_add_emod x.1 y.1
  rcases Kq (x.1 / y.1) 0 with g|g
  ·have:y.1*(x.1 / y.1)<=1*(x.1 / y.1):=Qh aa aa
   rcases Kq x.1 0 with k|k
   ·refine⟨?_,aa⟩
    rcases Kq (x.1 / y.1) x.1 with l|l
    ·exfalso
     have h5:y.1*(x.1 / y.1+1)<=1*(x.1 / y.1+1):=Qh aa aa
     grind
    omega
   omega
  have:1*(x.1 / y.1)<=y.1*(x.1 / y.1):=Int.mul_le_mul_of_nonneg_right aa g
  omega
 simp only[Wy]
 constructor
 ·cases decide (j8 (q6 (decide (x.1<0)) (x.1.natAbs%y.1.natAbs)).1<0)
  ·exact jN _
  exact subI_ok _ _
 cases decide (j8 (q6 (decide (x.1<0)) (x.1.natAbs%y.1.natAbs)).1<0)
 ·exact jN _
 exact kM _ _
theorem okI_nn {x:NI} (h:okI x) (hn:0<=x.1):x=jo x.1:=by
 obtain⟨z,b⟩:=x
 simp only at hn
 unfold okI at h
 unfold jo
 cases b
 ·rw[WJ ao] at h
  rw[zk (by unfold I63;simp only at h ⊢;omega)]
 rw[WK rfl] at h
 rw[zl h]
def quoI (x y:NI):NI:=if y.1<0 then divI (negI x) (negI y) else divI x y
theorem quoI_1 {x y:NI} (hy:y.1≠0) (hd:y.1 ∣ x.1):(quoI x y).1=x.1 / y.1:=by
 unfold quoI
 split
 ·rw[divI_1 (by rw[kS];omega),kS,kS]
  obtain⟨k,hk⟩:=hd
  grind [Int.neg_mul,Int.mul_ediv_cancel_left]
 rw[divI_1 aa]
theorem quoI_ok {x y:NI} (hx:okI x) (hy:okI y) (h0:y.1≠0):okI (quoI x y):=by
 unfold quoI
 split
 ·exact (dm_ok (ZA hx) (ZA hy) (by rw[kS];omega)).1
 exact (dm_ok hx hy aa).1
theorem b64_2':2<=B64:=ah
theorem dl_pow (n i:Nat):(dig B64 (n ^ i)).length<=i*(dig B64 n).length+1:=by
 refine je b64_2' ?_
 have h:=Xx (KH (jB b64_2' n)) i
 grind [Nat.pow_mul,Nat.mul_comm,Nat.pow_succ]
def PwI (x:NI) (k j:Nat) (o a:NI):Prop:=okI a/\(dig B64 a.1.natAbs).length<=400000/\(dig B64 o.1.natAbs).length<=400000/\okI o/\∃ i e,o=jo (x.1 ^ i)/\a.1=x.1 ^ e/\i+e*j=k
section
variable {x o a:NI} {k j:Nat}
theorem pw_init (hx:okI x) (hl:(dig B64 x.1.natAbs).length<=400000):PwI x k k (ofI 1) x:=
 ⟨hx,hl,by rw[show (ofI 1).1.natAbs=1 from rfl,j7 b64_2' ah ah];decide,ofI_ok ah,0,1,by rw[Kv];rfl,by rw[Ku,Kv,Int.one_mul],aa⟩
theorem pw_len (hk:k*(dig B64 x.1.natAbs).length<=399999) {i:Nat} (hi:i<=k):(dig B64 (x.1 ^ i).natAbs).length<=400000:=by
 rw[JY]
 refine qd (dl_pow _ _) ?_
 have:=Xh (dig B64 x.1.natAbs).length hi
 omega
theorem pw_next (h:PwI x k j o a) (hk:k*(dig B64 x.1.natAbs).length<=399999) (hj:0<j):PwI x k (j / 2) (if ((j%2:Nat):Int)=1 then kD o a else o) (if (1:Int)<(j:Int) then kD a a else a):=by
 obtain⟨h1,h2,h3,h4,i,e,h5,h6,h7⟩:=h
 have he:e*j=e*(j / 2*2)+e*(j%2):=by rw[<-Nat.mul_add];congr 1;omega
 have hej:e*1<=e*j:=Xw e hj
 have A:okI (if (1:Int)<(j:Int) then kD a a else a)/\(dig B64 (if (1:Int)<(j:Int) then kD a a else a).1.natAbs).length<=400000/\∃ e',(if (1:Int)<(j:Int) then kD a a else a).1=x.1 ^ e'/\e'*(j / 2)=e*(j / 2*2):=by
  split
  ·have e2:(kD a a).1=x.1 ^ (e+e):=by rw[mulI_1,h6,Int.pow_add]
   refine⟨km _ _,?_,e+e,e2,by rw[KL (j / 2) 2,<-Nat.mul_assoc,Nat.mul_two]⟩
   rw[e2]
   have:e*2<=e*j:=Xw e aa
   exact pw_len hk aa
  grind
 obtain⟨a1,a2,e',a3,a4⟩:=A
 refine⟨a1,a2,?_⟩
 by_cases hb:((j%2:Nat):Int)=1
 ·rw[WK hb]
  have e3:(kD o a).1=x.1 ^ (i+e):=by rw[mulI_1,h6,h5,Zl,Int.pow_add]
  have hb':j%2=1:=aa
  refine⟨?_,km _ _,i+e,e',by rw[<-e3];rfl,a3,?_⟩
  ·rw[e3];exact pw_len hk aa
  grind
 grind
theorem pw_end (h:PwI x k 0 o a):jo (x.1 ^ k)=o:=by
 obtain⟨_,_,_,_,i,e,h5,_,h7⟩:=h
 grind
end
def Dgs (l:Nb):Prop:=∀ c∈l,48<=c.toNat/\c.toNat<=57
def dgv (c:UInt8):Nat:=c.toNat-48
def jp (l:Nb):Nat:=l.foldl (fun a c=>a*10+dgv c) 0
theorem decV_from (a:Nat):∀ l:Nb,l.foldl (fun a c=>a*10+dgv c) a=a*10 ^ l.length+jp l:=by
 intro l
 induction l generalizing a with
 | nil=>simp[jp]
 | cons c l ih=>
  unfold jp
  grind
theorem kV (l m:Nb):jp (l++m)=jp l*10 ^ m.length+jp m:=by
 unfold jp
 rw[XX,decV_from];rfl
theorem decV_one (c:UInt8):jp [c]=dgv c:=by simp[jp]
theorem decV_snoc (l:Nb) (c:UInt8):jp (l++[c])=jp l*10+dgv c:=by rw[kV,decV_one];rfl
theorem Dgs.app {l m:Nb} (h:Dgs l) (k:Dgs m):Dgs (l++m):=fun c hc=>(zH.1 hc).elim (h c) (k c)
theorem Dgs.take {l:Nb} (h:Dgs l) (k:Nat):Dgs (l.take k):=fun c hc=>h c (zu hc)
theorem Dgs.drop {l:Nb} (h:Dgs l) (k:Nat):Dgs (l.drop k):=fun c hc=>h c (zw hc)
theorem kq:∀ {l:Nb},Dgs l->jp l<10 ^ l.length:=by
 intro l
 induction l with
 | nil=>intro _;decide
 | cons c l ih=>
  intro h
  have h1:=ih fun x hx=>h x (zN _ hx)
  have h2:=h c (qh ..)
  have e:jp (c::l)=dgv c*10 ^ l.length+jp l:=by
   have:=kV [c] l
   rwa [decV_one] at this
  rw[e,zb,KN]
  have h3:dgv c*10 ^ l.length<=9*10 ^ l.length:=Xh _ (by unfold dgv;omega)
  omega
theorem atoi_dg {l:Nb} (h:Dgs l) (hn:l≠[]):Lib.atoi l=some ((jp l:Nat):Int):=by
 have key:∀ (l:Nb) (a:Nat),Dgs l->Lib.decFrom a l=some (l.foldl (fun a c=>a*10+dgv c) a):=by
  intro l
  induction l with
  | nil=>intro a _;rfl
  | cons c l ih=>
   intro a h
   have h2:=h c (qh ..)
   unfold Lib.decFrom Lib.digitVal
   rw[WK h2]
   exact ih _ fun x hx=>h x (zN _ hx)
 cases l with
 | nil=>exact absurd Z hn
 | cons b r=>
  have h2:=h b (qh ..)
  have n1:(b==45)=false:=by
   cases e:b==45
   ·rfl
   exfalso
   have:=eq_of_beq e
   subst this
   exact absurd h2.1 ah
  have n2:(b==43)=false:=by
   cases e:b==43
   ·rfl
   exfalso
   have:=eq_of_beq e
   subst this
   exact absurd h2.1 ah
  simp only[Lib.atoi,n1,n2,qk,qm,Lib.decNat,List.isEmpty_cons]
  rw[key _ _ h];rfl
theorem dg_byte {d:Nat} (h:d<10):(UInt8.ofNat (48+d)).toNat=48+d:=by
 rw[UInt8.toNat_ofNat']
 omega
theorem jE:∀ n:Nat,Dgs (decDigits n):=by
 intro n
 induction n using Nat.strongRecOn with
 | ind n ih=>
  rw[decDigits]
  split
  ·rename_i h
   intro c hc
   rw[zg.1 hc,dg_byte h];omega
  refine (ih (n / 10) aa).app fun c hc=>?_
  rw[zg.1 hc,dg_byte (Wu _ ah)];omega
theorem jG:∀ n:Nat,jp (decDigits n)=n:=by
 intro n
 induction n using Nat.strongRecOn with
 | ind n ih=>
  rw[decDigits]
  split
  ·rename_i h
   rw[decV_one,dgv,dg_byte h];omega
  rw[decV_snoc,ih (n / 10) aa,dgv,dg_byte (Wu _ ah)];omega
def Cano (l:Nb):Prop:=Dgs l/\l≠[]/\(l.head? =some 48->l.length=1)
theorem snoc_cases:∀ l:Nb,l=[]\/∃ i c,l=i++[c]:=by
 intro l
 rcases List.eq_nil_or_concat l with h|⟨i,c,h⟩
 ·exact .inl h
 grind
theorem decV_pos:∀ {l:Nb},Dgs l->l≠[]->l.head?≠some 48->10 ^ (l.length-1)<=jp l:=by
 intro l h hn hh
 cases l with
 | nil=>exact absurd Z hn
 | cons c l=>
  have e:jp (c::l)=dgv c*10 ^ l.length+jp l:=by
   have:=kV [c] l
   rwa [decV_one] at this
  have h2:=h c (qh ..)
  have h3:1<=dgv c:=by
   unfold dgv
   rcases KJ 48 c.toNat with g|g
   ·omega
   exfalso
   refine hh ?_
   have:c=48:=JU.1 (show c.toNat=48 by omega)
   rw[this];rfl
  rw[e,zb,XF]
  have h4:1*10 ^ l.length<=dgv c*10 ^ l.length:=Xh _ h3
  omega
theorem byte_dg {c:UInt8} (h:48<=c.toNat/\c.toNat<=57):UInt8.ofNat (48+dgv c)=c:=by
 refine JU.1 ?_
 rw[dg_byte (by unfold dgv;omega)]
 unfold dgv;omega
theorem dec_of:∀ (k:Nat) {l:Nb},l.length=k->Cano l->decDigits (jp l)=l:=by
 intro k
 induction k with
 | zero=>intro l hl h;exact absurd (QS.1 hl) h.2.1
 | succ k ih=>
  intro l hl ⟨h1,h2,h3⟩
  rcases snoc_cases l with rfl|⟨i,c,rfl⟩
  ·exact absurd Z h2
  have hc:=h1 c ao
  have hd:dgv c<10:=by unfold dgv;omega
  rw[decV_snoc]
  by_cases hi:i=[]
  ·subst hi
   rw[show jp []=0 from rfl,KU,KT,decDigits,WI hd,byte_dg hc];rfl
  have hi1:Dgs i:=fun x hx=>h1 x ap
  have hh:i.head?≠some 48:=by
   intro e
   have e2:(i++[c]).head? =some 48:=by
    cases i with
    | nil=>exact absurd Z hi
    | cons a i=>exact e
   have:=h3 e2
   rw[za,z6] at this
   exact hi (QS.1 aa)
  have hp:=decV_pos hi1 hi hh
  have hp1:=Wj (n:=i.length-1) (show 0<10 by decide)
  rw[decDigits,WH aa,show (jp i*10+dgv c) / 10=jp i by omega,show (jp i*10+dgv c)%10=dgv c by omega,byte_dg hc,
   ih (by rw[za,z6] at hl;omega) ⟨hi1,hi,fun e=>absurd e hh⟩]
theorem ZE (n:Nat):decDigits n≠[]:=by
 rw[decDigits]
 split<;>simp
theorem cano_dec (n:Nat):Cano (decDigits n)/\(n≠0->(decDigits n).head?≠some 48):=by
 have key:∀ n:Nat,n≠0->(decDigits n).head?≠some 48:=by
  intro n
  induction n using Nat.strongRecOn with
  | ind n ih=>
   intro h0
   rw[decDigits]
   split
   ·rename_i h
    intro e
    have e2:UInt8.ofNat (48+n)=48:=by simpa using e
    have:=WD UInt8.toNat e2
    grind [dg_byte]
   intro e
   refine ih (n / 10) aa aa ?_
   cases hd:decDigits (n / 10) with
   | nil=>exact absurd hd (ZE _)
   | cons a i=>rw[hd] at e;exact e
 refine⟨⟨jE n,ZE n,fun e=>?_⟩,key n⟩
 by_cases h0:n=0
 ·subst h0;rw[decDigits,WI ah];rfl
 exact absurd e (key n h0)
theorem dec_len {n k:Nat} (hk:0<k) (h:n<10 ^ k):(decDigits n).length<=k:=by
 by_cases h0:n=0
 ·subst h0
  rw[decDigits,WI ah];exact hk
 have h1:=decV_pos (jE n) (ZE n) ((cano_dec n).2 h0)
 rw[jG] at h1
 rcases KJ k (decDigits n).length with g|g
 ·exfalso
  have:=Xj (show 0<10 by decide) (show k<=(decDigits n).length-1 by omega)
  omega
 exact g
def padN (k n:Nat):Nb:=replicate (k-(decDigits n).length) 48++decDigits n
theorem decV_zeros (k:Nat):jp (replicate k 48)=0:=by
 induction k with
 | zero=>rfl
 | succ k ih=>rw[List.replicate_succ',decV_snoc,ih];rfl
theorem dgs_zeros (k:Nat):Dgs (replicate k 48):=fun c hc=>by rw[(List.mem_replicate.1 hc).2];decide
theorem dec_pad {q r k:Nat} (hq:0<q) (hk:0<k) (hr:r<10 ^ k):decDigits (q*10 ^ k+r)=decDigits q++padN k r:=by
 have hl:=dec_len hk hr
 have e1:(padN k r).length=k:=by unfold padN;rw[za,qa];omega
 have e2:jp (padN k r)=r:=by unfold padN;rw[kV,decV_zeros,jG,KU,KT]
 have e3:jp (decDigits q++padN k r)=q*10 ^ k+r:=by rw[kV,jG,e1,e2]
 have hc:Cano (decDigits q++padN k r):=by
  refine⟨(jE q).app ?_,?_,fun e=>?_⟩
  ·unfold padN;exact (dgs_zeros _).app (jE r)
  ·intro e;exact ZE q (QW.1 e).1
  exfalso
  refine (cano_dec q).2 aa ?_
  cases hd:decDigits q with
  | nil=>exact absurd hd (ZE q)
  | cons a i=>rw[hd] at e;exact e
 have:=dec_of _ Z hc
 rwa [e3] at this
abbrev K18:Nat:=1000000000000000000
def Zr (ps:List Nb):Nb:=ps.reverse.flatten
def partF (m:Nat):Nb:=if 0<m / K18 then padN 18 (m%K18) else decDigits (m%K18)
def StI (n m:Nat) (ps:List Nb):Prop:=(if m=0 then ps≠[]/\decDigits n=Zr ps else decDigits n=decDigits m++Zr ps)/\ps.length+q9 m<=q9 n/\∀ p∈ps,p.length<=18
theorem part_len (m:Nat):(partF m).length<=18:=by
 have h1:(decDigits (m%K18)).length<=18:=dec_len (k:=18) ah (Wu m (show 0<K18 by decide))
 grind [partF,padN,List.length_append,List.length_replicate]
theorem joinR_snoc (ps:List Nb) (p:Nb):Zr (ps++[p])=p++Zr ps:=by
 unfold Zr
 grind
theorem st_init {n:Nat} (h:n≠0):StI n n []:=by
 refine⟨?_,by simp,fun p hp=>by cases hp⟩
 rw[WJ h]
 simp[Zr]
theorem blen_div {m:Nat} (h:m≠0):q9 (m / K18)+1<=q9 m:=by
 by_cases h0:m / K18=0
 ·rw[h0]
  have:q9 0=0:=rfl
  have h1:q9 m≠0:=by unfold q9;rw[WJ h];omega
  omega
 have h1:=blen_le h0
 have h2:=kw m
 rcases KJ (q9 (m / K18)) (q9 m) with g|g
 ·exact g
 exfalso
 have h3:=Xj (show 0<2 by decide) (show q9 m-1<=q9 (m / K18)-1 by omega)
 have h4:m<2*2 ^ (q9 m-1):=by
  have:q9 m≠0:=by unfold q9;rw[WJ h];omega
  rw[<-Nat.pow_succ',show (q9 m-1).succ=q9 m by omega];exact h2
 have h5:=Xv m K18
 have h6:m / K18*2<=m / K18*K18:=Xw _ ah
 omega
theorem st_step {n m:Nat} {ps:List Nb} (h:StI n m ps) (hm:m≠0):StI n (m / K18) (ps++[partF m]):=by
 obtain⟨h1,h2,h3⟩:=h
 rw[WJ hm] at h1
 refine⟨?_,?_,fun p hp=>?_⟩
 ·have hd:m / K18*10 ^ 18+m%K18=m:=by rw[KL];exact JF m K18
  by_cases h0:m / K18=0
  ·rw[WK h0]
   refine⟨by simp,?_⟩
   rw[joinR_snoc,h1]
   congr 1
   unfold partF
   rw[WJ aa]
   rw[h0] at hd
   rw[show m%K18=m by omega]
  rw[WJ h0,joinR_snoc,h1,<-zZ]
  congr 1
  unfold partF
  rw[WK aa,<-dec_pad aa ah (Wu m (show 0<10 ^ 18 by decide)),hd]
 ·rw[za,z6]
  have:=blen_div hm
  omega
 rcases zH.1 hp with hp|hp
 ·exact h3 p hp
 rw[zg.1 hp];exact part_len m
theorem st_end {n:Nat} {ps:List Nb} (h:StI n 0 ps):ps≠[]/\decDigits n=Zr ps/\ps.length<=q9 n/\∀ p∈ps,p.length<=18:=by
 obtain⟨h1,h2,h3⟩:=h
 grind
def WrI (pre:Nb) (ps:List Nb) (i:Int) (l:Nb):Prop:= -1<=i/\i<ps.length/\l=pre++Zr (ps.drop (i+1).toNat)
theorem joinR_at {ps:List Nb} {i:Int} (h0:0<=i) (h1:i<ps.length):Zr (ps.drop i.toNat)=Zr (ps.drop (i+1).toNat)++ps.getD i.toNat []:=by
 have e:ps.drop i.toNat=ps.getD i.toNat []::ps.drop (i+1).toNat:=by rw[QB aa,ze,zm aa,show (i+1).toNat=i.toNat+1 by omega];rfl
 rw[e]
 unfold Zr
 rw[List.reverse_cons,Xn];simp
theorem wr_step {pre l:Nb} {ps:List Nb} {i:Int} (h:WrI pre ps i l) (h0:0<=i):WrI pre ps (i-1) (l++ps.getD i.toNat []):=by
 obtain⟨h1,h2,rfl⟩:=h
 refine⟨aa,aa,?_⟩
 rw[show (i-1+1)=i by omega,joinR_at h0 h2,zZ]
theorem wr_end {pre l:Nb} {ps:List Nb} {i:Int} (h:WrI pre ps i l) (h0:¬0<=i):l=pre++Zr ps:=by
 obtain⟨h1,h2,rfl⟩:=h
 rw[show (i+1).toNat=0 by omega];rfl
theorem joinR_len:∀ {ps:List Nb},(∀ p∈ps,p.length<=18)->(Zr ps).length<=18*ps.length:=by
 intro ps
 induction ps with
 | nil=>intro _;simp[Zr]
 | cons p ps ih=>
  intro h
  have h1:=ih fun q hq=>h q (zN _ hq)
  have h2:=h p (qh ..)
  have e:(Zr (p::ps)).length=(Zr ps).length+p.length:=by
   unfold Zr
   grind
  grind
theorem wr_len {pre l:Nb} {ps:List Nb} {i:Int} (h:WrI pre ps i l) (hp:∀ p∈ps,p.length<=18) (hl:ps.length<=40000000) (hr:pre.length<=1):l.length<=1000000000:=by
 obtain⟨h1,h2,rfl⟩:=h
 have:=joinR_len (ps:=ps.drop (i+1).toNat) fun p h=>hp p (zw h)
 grind
structure Qn where
 n:NI
 d:NI
 hn:okI n
 hd:okI d
 pos:0<d.1
 cop:gcd n.1.natAbs d.1.natAbs=1
def Qn.q (x:Qn):Rat:=⟨x.n.1,x.d.1.natAbs,by have:=x.pos;omega,x.cop⟩
theorem Qn.q_num (x:Qn):x.q.num=x.n.1:=rfl
theorem Qn.q_den (x:Qn):(x.q.den:Int)=x.d.1:=by
 have:=x.pos
 show (x.d.1.natAbs:Int)=x.d.1
 omega
theorem Qn.q_div (x:Qn):x.q=(x.n.1:Rat) / (x.d.1:Rat):=by
 unfold Qn.q
 rw[Jp,X3]
 have:=x.pos
 rw[show (x.d.1.natAbs:Int)=x.d.1 by omega]
theorem icast_ne {z:Int} (h:z≠0):(z:Rat)≠0:=by
 intro e
 exact h (JQ.1 (by rw[e];rfl))
theorem Qn.d_ne (x:Qn):(x.d.1:Rat)≠0:=icast_ne (by have:=x.pos;omega)
def mkX (x y:NI):NI:=if y.1<0 then negI x else x
def mkY (y:NI):NI:=if y.1<0 then negI y else y
def one1 (y:NI):Bool:=bif y.2 then false else decide (y.1=1)
def mkG (x y:NI):NI:=jo ((gcd x.1.natAbs y.1.natAbs:Nat):Int)
def mkNum (x y:NI):NI:=bif one1 (mkY y) then mkX x y else quoI (mkX x y) (mkG (mkX x y) (mkY y))
def mkDen (x y:NI):NI:=bif one1 (mkY y) then mkY y else quoI (mkY y) (mkG (mkX x y) (mkY y))
theorem one1_1 {y:NI} (h:one1 y=true):y.1=1:=by
 unfold one1 at h
 grind
theorem mk_facts {x y:NI} (hx:okI x) (hy:okI y) (h0:y.1≠0):okI (mkNum x y)/\okI (mkDen x y)/\0<(mkDen x y).1/\gcd (mkNum x y).1.natAbs (mkDen x y).1.natAbs=1/\(mkNum x y).1*y.1=x.1*(mkDen x y).1/\
  (mkNum x y).1.natAbs<=x.1.natAbs/\(mkDen x y).1.natAbs<=y.1.natAbs:=by
 have hX:okI (mkX x y):=by unfold mkX;split;exact ZA hx;exact hx
 have hY:okI (mkY y):=by unfold mkY;split;exact ZA hy;exact hy
 have hp:0<(mkY y).1:=by grind [mkY,kS]
 have hxy:(mkX x y).1*y.1=x.1*(mkY y).1:=by grind [mkX,mkY,kS,Int.neg_mul,Int.mul_neg]
 have hxa:(mkX x y).1.natAbs=x.1.natAbs:=by
  unfold mkX
  split
  ·rw[kS,JX]
  rfl
 have hya:(mkY y).1.natAbs=y.1.natAbs:=by
  unfold mkY
  split
  ·rw[kS,JX]
  rfl
 unfold mkNum mkDen
 cases h1:one1 (mkY y)
 ·simp only[Ww]
  generalize mkX x y=X at*
  generalize mkY y=Y at*
  have hg:0<gcd X.1.natAbs Y.1.natAbs:=QN _ aa
  have hG:(mkG X Y).1=((gcd X.1.natAbs Y.1.natAbs:Nat):Int):=rfl
  have hGok:okI (mkG X Y):=jN _
  have d1:(mkG X Y).1 ∣ X.1:=by rw[hG];exact Int.ofNat_dvd_left.2 (Nat.gcd_dvd_left ..)
  have d2:(mkG X Y).1 ∣ Y.1:=by rw[hG];exact Int.ofNat_dvd_left.2 (X0 ..)
  have hG0:(mkG X Y).1≠0:=by rw[hG];omega
  have hGp:0<(mkG X Y).1:=by rw[hG];omega
  have a1:(X.1 / (mkG X Y).1).natAbs=X.1.natAbs / gcd X.1.natAbs Y.1.natAbs:=by rw[Int.natAbs_ediv_of_dvd d1,hG,XA]
  have a2:(Y.1 / (mkG X Y).1).natAbs=Y.1.natAbs / gcd X.1.natAbs Y.1.natAbs:=by grind
  rw[quoI_1 hG0 d1,quoI_1 hG0 d2]
  refine⟨quoI_ok hX hGok hG0,quoI_ok hY hGok hG0,Int.ediv_pos_of_pos_of_dvd hp (Kp hGp) d2,?_,?_,?_,?_⟩
  ·rw[a1,a2];exact Qo hg
  ·obtain⟨u,hu⟩:=d1
   obtain⟨v,hv⟩:=d2
   rw[hu] at hxy
   rw[hv] at hxy
   rw[Int.mul_assoc,Int.mul_left_comm x.1] at hxy
   have:=Int.eq_of_mul_eq_mul_left hG0 hxy
   conv=>lhs;rw[hu]
   conv=>rhs;rw[hv]
   rw[QM _ hG0,QM _ hG0,this]
  ·rw[a1,<-hxa];exact JG _ _
  rw[a2,<-hya];exact JG _ _
 simp only[Wy]
 refine⟨hX,hY,hp,?_,hxy,aa,aa⟩
 rw[one1_1 h1]
 exact X1 _
def Qn.make (x y:NI) (hx:okI x) (hy:okI y) (h0:y.1≠0):Qn:=
 ⟨mkNum x y,mkDen x y,(mk_facts hx hy h0).1,(mk_facts hx hy h0).2.1,(mk_facts hx hy h0).2.2.1,(mk_facts hx hy h0).2.2.2.1⟩
theorem Qn.make_q {x y:NI} (hx:okI x) (hy:okI y) (h0:y.1≠0):(Qn.make x y hx hy h0).q=(x.1:Rat) / (y.1:Rat):=by
 have h:=(mk_facts hx hy h0).2.2.2.2.1
 rw[Qn.q_div]
 have hd:=(Qn.make x y hx hy h0).d_ne
 have hy0:=icast_ne h0
 have e:((mkNum x y).1:Rat)*(y.1:Rat)=(x.1:Rat)*((mkDen x y).1:Rat):=by rw[<-Rat.intCast_mul,h,JR]
 show ((mkNum x y).1:Rat) / ((mkDen x y).1:Rat)=_
 have hd':((mkDen x y).1:Rat)≠0:=hd
 grind
def Qn.whole (n:NI) (h:okI n):Qn:=⟨n,ofI 1,h,ofI_ok ah,ah,X1 _⟩
theorem Qn.whole_q {n:NI} (h:okI n):(Qn.whole n h).q=(n.1:Rat):=by
 rw[Qn.q_div]
 show (n.1:Rat) / ((1:Int):Rat)=_
 rw[show ((1:Int):Rat)=1 from rfl]
 grind
def Qn.neg (x:Qn):Qn:=⟨negI x.n,x.d,ZA x.hn,x.hd,x.pos,by rw[kS,JX];exact x.cop⟩
theorem Qn.neg_q (x:Qn):x.neg.q= -x.q:=by
 rw[Qn.q_div,Qn.q_div]
 show ((negI x.n).1:Rat) / (x.d.1:Rat)=_
 rw[kS,JS]
 grind
def Qn.add (x y:Qn):Qn:=if one1 x.d&&one1 y.d then Qn.whole (addI x.n y.n) (kM _ _) else
 Qn.make (addI (kD x.n y.d) (kD y.n x.d)) (kD x.d y.d) (kM _ _) (km _ _) (by rw[mulI_1];have:=x.pos;have:=y.pos;exact Ks (K6 x.pos y.pos))
theorem Qn.add_q (x y:Qn):(x.add y).q=x.q+y.q:=by
 have h1:=x.d_ne
 have h2:=y.d_ne
 unfold Qn.add
 split
 ·rename_i h
  simp only[zj] at h
  rw[Qn.whole_q,addI_1,JP,Qn.q_div x,Qn.q_div y,one1_1 h.1,one1_1 h.2,show ((1:Int):Rat)=1 from rfl]
  grind
 rw[Qn.make_q,addI_1,mulI_1,mulI_1,mulI_1,JP,JR,JR,JR,Qn.q_div x,Qn.q_div y]
 generalize (x.n.1:Rat)=a at*
 generalize (x.d.1:Rat)=b at*
 generalize (y.n.1:Rat)=c at*
 generalize (y.d.1:Rat)=d at*
 grind
def Qn.sub (x y:Qn):Qn:=x.add y.neg
def Qn.mul (x y:Qn):Qn:=Qn.make (kD x.n y.n) (kD x.d y.d) (km _ _) (km _ _) (by rw[mulI_1];exact Ks (K6 x.pos y.pos))
theorem Qn.mul_q (x y:Qn):(x.mul y).q=x.q*y.q:=by
 have h1:=x.d_ne
 have h2:=y.d_ne
 unfold Qn.mul
 rw[Qn.make_q,mulI_1,mulI_1,JR,JR,Qn.q_div x,Qn.q_div y]
 grind
theorem Qn.n_ne {x:Qn} (h:x.q≠0):x.n.1≠0:=by
 intro e
 refine h (JT.1 ?_)
 rw[Qn.q_num,e]
def Qn.inv (x:Qn) (h:x.q≠0):Qn:=Qn.make x.d x.n x.hd x.hn (Qn.n_ne h)
theorem Qn.inv_q (x:Qn) (h:x.q≠0):(x.inv h).q=x.q⁻¹:=by grind [Qn.inv,Qn.make_q,Qn.q_div]
def Qn.div (x y:Qn) (h:y.q≠0):Qn:=x.mul (y.inv h)
theorem Qn.div_q (x y:Qn) (h:y.q≠0):(x.div y h).q=x.q / y.q:=by
 unfold Qn.div
 rw[Qn.mul_q,Qn.inv_q,Wm]
theorem Qn.q_one {x:Qn}:one1 x.d=true↔x.q.den=1:=by
 have hp:=x.pos
 constructor
 ·intro h
  have:=x.q_den
  rw[one1_1 h] at this
  omega
 intro h
 have:=x.q_den
 rw[h] at this
 have e:x.d=jo 1:=by
  have:=okI_nn x.hd aa
  rw[show x.d.1=1 by omega] at this;exact this
 rw[e];decide
theorem jj {n k:Nat} (h:n<2 ^ k):q9 n<=k:=by
 by_cases h0:n=0
 ·subst h0;rw[show q9 0=0 from rfl];omega
 have h1:=blen_le h0
 rcases KJ k (q9 n) with g|g
 ·exfalso
  have:=Xj (show 0<2 by decide) (show k<=q9 n-1 by omega)
  omega
 exact g
theorem bl_mono {m n:Nat} (h:m<=n):q9 m<=q9 n:=jj (XI h (kw n))
theorem bl_mul (m n:Nat):q9 (m*n)<=q9 m+q9 n:=by
 refine jj ?_
 rw[Wh]
 exact Jn (kw m) (kw n)
theorem bl_add {m n k:Nat} (hm:q9 m<=k) (hn:q9 n<=k):q9 (m+n)<=k+1:=by
 refine jj ?_
 have h1:=XJ (kw m) (Xj (show 0<2 by decide) hm)
 have h2:=XJ (kw n) (Xj (show 0<2 by decide) hn)
 rw[KN];omega
theorem pw64 (n:Nat):B64 ^ n=2 ^ (64*n):=by rw[Wi]
theorem ln_of {n:Nat} (h:q9 n<=25000000):(dig B64 n).length<=400000:=by
 rcases XG n with e|e
 ·subst e;rw[jL];decide
 have h1:=nz_pos b64_2' (nz_dig b64_2' n) (by intro e2;have:=dig_nil b64_2' e2;omega)
 rw[qO b64_2'] at h1
 have h2:=kw n
 rcases KJ 400000 (dig B64 n).length with g|g
 ·exfalso
  have h3:=Xj (show 0<B64 by decide) (show 400000<=(dig B64 n).length-1 by omega)
  have h4:=pw64 400000
  have h5:=Xj (show 0<2 by decide) (show q9 n<=64*400000 by omega)
  rw[h4] at h3
  exact absurd (XJ h2 h5) (Nat.not_lt.2 (qd h3 h1))
 exact g
def sz (q:Rat):Nat:=max (q9 q.num.natAbs) (q9 q.den)
theorem Qn.bn (x:Qn):q9 x.n.1.natAbs<=sz x.q:=JJ ..
theorem Qn.bd (x:Qn):q9 x.d.1.natAbs<=sz x.q:=Jk ..
theorem sz_of {q:Rat} {a b:Int} {k:Nat} (hb:b≠0) (h:q*(b:Rat)=(a:Rat)) (ha:q9 a.natAbs<=k) (hk:q9 b.natAbs<=k):sz q<=k:=by
 have e:q.num*b=a*(q.den:Int):=by
  have hq:q=(q.num:Rat) / ((q.den:Int):Rat):=by
   conv=>lhs;rw[show q=⟨q.num,q.den,q.den_nz,q.reduced⟩ from rfl,Jp,X3]
  have hd:(((q.den:Nat):Int):Rat)≠0:=icast_ne aZ
  have:((q.num*b:Int):Rat)=((a*(q.den:Int):Int):Rat):=by
   rw[JR,JR,<-h]
   generalize (b:Rat)=B at*
   generalize (((q.den:Nat):Int):Rat)=D at*
   generalize (q.num:Rat)=N at*
   grind
  exact JQ.1 this
 have e2:q.num.natAbs*b.natAbs=a.natAbs*q.den:=by
  have:=WD Int.natAbs e
  rwa [JW,JW,XA] at this
 have hc:Nat.Coprime q.num.natAbs q.den:=q.reduced
 have h1:q.den ∣ b.natAbs:=by
  have:q.den ∣ q.num.natAbs*b.natAbs:=by rw[e2];exact Nat.dvd_mul_left ..
  exact (Nat.Coprime.dvd_of_dvd_mul_left hc.symm this)
 have h2:q.num.natAbs ∣ a.natAbs:=by
  have:q.num.natAbs ∣ a.natAbs*q.den:=by rw[<-e2];exact Nat.dvd_mul_right ..
  exact (Nat.Coprime.dvd_of_dvd_mul_right hc this)
 have h3:q.den<=b.natAbs:=Km aa h1
 refine Wt.2 ⟨?_,qd (bl_mono h3) hk⟩
 by_cases h0:a.natAbs=0
 ·rw[h0,KU] at e2
  rcases JM.1 e2 with g|g
  ·rw[g];exact zt _
  omega
 exact qd (bl_mono (Km aa h2)) ha
theorem q_mul (q:Rat):q*((q.den:Int):Rat)=(q.num:Rat):=by
 have hq:q=(q.num:Rat) / ((q.den:Int):Rat):=by
  conv=>lhs;rw[show q=⟨q.num,q.den,q.den_nz,q.reduced⟩ from rfl,Jp,X3]
 have hd:(((q.den:Nat):Int):Rat)≠0:=icast_ne aZ
 generalize (((q.den:Nat):Int):Rat)=D at*
 generalize (q.num:Rat)=N at*
 grind
theorem sz_n (q:Rat):q9 q.num.natAbs<=sz q:=JJ ..
theorem sz_d (q:Rat):q9 q.den<=sz q:=Jk ..
theorem den_ne (q:Rat):(q.den:Int)≠0:=by have:=q.den_nz;omega
theorem sz_add (p q:Rat):sz (p+q)<=sz p+sz q+1:=by
 refine sz_of (a:=p.num*q.den+q.num*p.den) (b:=(p.den:Int)*q.den) (Ju (den_ne p) (den_ne q)) ?_ ?_ ?_
 ·rw[JP,JR,JR,JR]
  have h1:=q_mul p
  have h2:=q_mul q
  generalize (((q.den:Nat):Int):Rat)=D at*
  generalize (((p.den:Nat):Int):Rat)=E at*
  generalize (q.num:Rat)=N at*
  generalize (p.num:Rat)=M at*
  grind
 ·have h:(p.num*q.den+q.num*p.den).natAbs<=p.num.natAbs*q.den+q.num.natAbs*p.den:=by
   refine qd (XS _ _) ?_
   rw[JW,JW,XA,XA]
   exact zB _
  refine qd (bl_mono h) (bl_add ?_ ?_)
  ·exact qd (bl_mul _ _) (J9 (sz_n p) (sz_d q))
  rw[KC];exact qd (bl_mul _ _) (J9 (sz_n q) (sz_d p))
 rw[JW,XA,XA]
 have:=bl_mul p.den q.den
 have:=sz_d p
 have:=sz_d q
 omega
theorem jv (p q:Rat):sz (p*q)<=sz p+sz q:=by
 refine sz_of (a:=p.num*q.num) (b:=(p.den:Int)*q.den) (Ju (den_ne p) (den_ne q)) ?_ ?_ ?_
 ·rw[JR,JR]
  have h1:=q_mul p
  have h2:=q_mul q
  generalize (((q.den:Nat):Int):Rat)=D at*
  generalize (((p.den:Nat):Int):Rat)=E at*
  generalize (q.num:Rat)=N at*
  generalize (p.num:Rat)=M at*
  grind
 ·rw[JW]
  exact qd (bl_mul _ _) (J9 (sz_n p) (sz_n q))
 rw[JW,XA,XA]
 exact qd (bl_mul _ _) (J9 (sz_d p) (sz_d q))
theorem sz_neg (q:Rat):sz (-q)=sz q:=by
 unfold sz
 rw[Wo,Rat.neg_den,JX]
theorem sz_inv (q:Rat):sz q⁻¹<=sz q:=by
 by_cases h:q=0
 ·subst h;rw[Rat.inv_zero];exact zB _
 have hn:q.num≠0:=fun e=>h (JT.1 e)
 refine sz_of (a:=(q.den:Int)) (b:=q.num) hn ?_ ?_ (sz_n q)
 ·have h1:=q_mul q
  rw[<-h1]
  grind
 rw[XA];exact sz_d q
theorem sz_div (p q:Rat):sz (p / q)<=sz p+sz q:=by
 rw[Wm]
 have:=jv p q⁻¹
 have:=sz_inv q
 omega
theorem sz_int (z:Int):sz (z:Rat)<=max (q9 z.natAbs) 1:=by
 refine sz_of (a:=z) (b:=1) ah ?_ (JJ ..) (Jk ..)
 rw[show ((1:Int):Rat)=1 from rfl,Wn]
end Go.Lens.Un
end
section
namespace Go.Lens.Tb
open Go.Proofs Go.Lens.Un
abbrev nilP:PV:=.lit (.slice none 0 0)
abbrev aI (x:NI):List PV:=[pI (nH x),nW x]
abbrev bI (x:NI):List DV:=[vI (nH x),.pv (nW x)]
abbrev nP (x:NI):PV:=.agg (aI x)
abbrev nV (x:NI):DV:=.pv (nP x)
abbrev eF (x:Qn):List PV:=[pI (nH x.n),nW x.n,pI (nH x.d),nW x.d]
abbrev gF (x:Qn):List DV:=[vI (nH x.n),.pv (nW x.n),vI (nH x.d),.pv (nW x.d)]
abbrev qP (x:Qn):PV:=.agg (eF x)
abbrev qV (x:Qn):DV:=.pv (qP x)
abbrev eF2 (x y:Qn):List PV:=[pI (nH x.n),nW x.n,pI (nH x.d),nW x.d,pI (nH y.n),nW y.n,pI (nH y.d),nW y.d]
abbrev gF2 (x y:Qn):List DV:=[vI (nH x.n),.pv (nW x.n),vI (nH x.d),.pv (nW x.d),vI (nH y.n),.pv (nW y.n),vI (nH y.d),.pv (nW y.d)]
abbrev rP (x y:Qn):PV:=.agg (eF2 x y)
abbrev rV (x y:Qn):DV:=.pv (rP x y)
end Go.Lens.Tb
namespace Go.Lens
section
variable [Lz] {P:Program} {Y:Tab} {nb:Nat} {s:St} {o:Oper} {rd:List Nat}
theorem B.bZ {h:Nat} {T:TypeId} {ds:List DV} {ps:List PV} (e:bodyX Y nb s o=some (.bref h 0,[(h,.box T ds)],rd)) (hd:dzL ds=some ps):Body P Y nb s o (.bref h 0) [(h,.box T (ps.map .pv))] rd:=B.runZ e (fun l=>Frz.boxZ l hd) rfl
theorem B.bN {h:Nat} {T:TypeId} {ds:List DV} {ps:List PV} (e:bodyX Y nb s o=some (.bref h 0,[(h,.box T ds)],rd)) (hd:dnL ds=some ps):Body P Y nb s o (.bref h 0) [(h,.box T (ps.map .pv))] rd:=B.runZ e (fun l=>Frz.boxN l hd) rfl
theorem B.zA {h v sz:Nat} {T:TypeId} {es:List (List PV)} (e:bodyX Y nb s o=some (.aref h v,[(h,.arr v sz T es)],rd)):Body P Y nb s o (.pv (.slice es)) [(h,.farr v es)] rd:=B.runZ e (fun l=>Frz.arr l _ _ _ _ _) rfl
variable {dst:Option Tmp} {ty:TypeId} {pos:String} {af:Array Edge} {gd:Option (Nat×Bool)} {c x y:Operand} {β x' y' sx:Bool}
theorem B.pA (hc:ev1 s c=lit (.bool β)) (hrx:(evS s x).refs=[]) (hry:(evS s y).refs=[]) (hx:evS s x=.gd (β==true) (lit (.bool x'))) (hy:gdBool (ev1 s y)=some (true,y')):Body P Y nb s ⟨dst,.pick c x y,ty,pos,af,gd⟩ (lit (.bool (bif β then x' else y'))) [] []:=B.pick hc hrx hry (gdB hx) hy (by cases β<;>rfl)
theorem B.pO (hc:ev1 s c=lit (.bool β)) (hrx:(evS s x).refs=[]) (hry:(evS s y).refs=[]) (hx:gdBool (ev1 s x)=some (true,x')) (hy:evS s y=.gd (β==false) (lit (.bool y'))):Body P Y nb s ⟨dst,.pick c x y,ty,pos,af,gd⟩ (lit (.bool (bif β then x' else y'))) [] []:=B.pick hc hrx hry hx (gdB hy) (by cases β<;>rfl)
end
end Go.Lens
end
section
namespace Go.Lens.Tb
open Go.Proofs Go.Lens.Un
variable [Lz]
attribute [local irreducible] TK PK T RG EfR Body CG
theorem mulF (x y:Nat) (hx:x<B64) (hy:y<B64):x%4294967296*(y%4294967296)<B64/\x / 4294967296*(y%4294967296)+x%4294967296*(y%4294967296) / 4294967296<B64/\
  (x / 4294967296*(y%4294967296)+x%4294967296*(y%4294967296) / 4294967296)%4294967296+x%4294967296*(y / 4294967296)<B64/\
  x / 4294967296*(y / 4294967296)+(x / 4294967296*(y%4294967296)+x%4294967296*(y%4294967296) / 4294967296) / 4294967296+
      ((x / 4294967296*(y%4294967296)+x%4294967296*(y%4294967296) / 4294967296)%4294967296+x%4294967296*(y / 4294967296)) / 4294967296<B64/\
  x / 4294967296*(y / 4294967296)+(x / 4294967296*(y%4294967296)+x%4294967296*(y%4294967296) / 4294967296) / 4294967296+
      ((x / 4294967296*(y%4294967296)+x%4294967296*(y%4294967296) / 4294967296)%4294967296+x%4294967296*(y / 4294967296)) / 4294967296=x*y / B64:=by
 obtain⟨h1,h2,h3,h4⟩:=Lib.mul64_hi x y hx hy
 refine⟨h1,h2,h3,?_,h4⟩
 rw[h4]
 exact Xg (Jn hx hy)
theorem negU {n:Int} (hn:R64 n) (h:n<0):wr64 (0-n)%18446744073709551616=(n.natAbs:Int):=by
 unfold R64 at hn
 unfold wr64
 split<;>omega
theorem posU {n:Int} (hn:R64 n) (h:¬n<0):n%18446744073709551616=(n.natAbs:Int):=by
 unfold R64 at hn
 omega
theorem un3:tab.underlying 3=some (.int (.i64)):=ae
theorem un237:tab.underlying 237=some (.int (.u64)):=ae
theorem w253 (x y:Nat) (hx:x<B64) (hy:y<B64):qA prog 195 [WM (x:Int),WM (y:Int)] (qr []) (.tup [WM (((x*y / B64):Nat):Int),WM (((x*y%B64):Nat):Int)]) []:=by
 refine cG qf195 Z (nB Z) Z ?_
 have hm:=mulF x y hx hy
 have h1:=hm.1
 have h2:=hm.2.1
 have h3:=hm.2.2.1
 have h4:=hm.2.2.2.1
 have h5:=hm.2.2.2.2
 refine E Z (B.andK 32 4294967296 Z Z aa ah ah ah) (E Z (B.shrM (K:=4294967296) Z Z ah ah) (E Z (B.andK 32 4294967296 Z Z aa ah ah ah) (E Z (B.shrM (K:=4294967296) Z Z ah ah) (E Z (B.mulN Z Z aa) (E Z (B.mulN Z Z aa) (E Z (B.shrM (K:=4294967296) Z Z ah ah) (E Z (B.addN Z Z aa) (E Z (B.andK 32 4294967296 Z Z aa ah ah ah) (E Z (B.shrM (K:=4294967296) Z Z ah ah) (E Z (B.mulN Z Z aa) (E Z (B.addN Z Z aa) (E Z (B.mulN Z Z aa) (E Z (B.addN Z Z aa) ?_)))))))))))))
 exact E Z (B.shrM (K:=4294967296) Z Z ah ah) (E Z (B.addN Z Z aa) (E Z (B.mulM Z Z) (Rt Z (lF Z (ZF (li (by first|exact WD (fun n:Nat=>(n:Int)) h5|rfl)) (rfl))))))
theorem w254 (n:Int) (hn:R64 n):qA prog 196 [vI n] (qr []) (WM (((Int.natAbs n):Nat):Int)) []:=by
 refine cG qf196 Z (nB Z) Z (Cp Z Z (fun h1=>?_) (fun h1=>?_))
 ·exact E Z (B.negW Z) (E Z (B.toUN Z un3 un237 (negU hn h1) Z) (Rt Z (leaf Z Z)))
 exact E Z (B.toUN Z un3 un237 (posU hn h1) Z) (Rt Z (leaf Z Z))
end Go.Lens.Tb
end
section
namespace Go.Lens.Tb
open Go.Proofs Go.Lens.Un
variable [Lz]
theorem dvs_three {G:Gh} {R:Rd} {d d' d'':DV} {vs:Array Value} (h:qz G R [d,d',d''] vs.toList):∃ v v' v'',vs= #[v,v',v'']/\qt G R d v/\qt G R d' v'/\qt G R d'' v'':=by
 simp only[qz] at h
 obtain⟨v,_,e,h1,v',_,rfl,h2,v'',_,rfl,h3,rfl⟩:=h
 exact⟨v,v',v'',by rw[<-Array.toArray_toList (xs:=vs),e],h1,h2,h3⟩
theorem tup_rel {G:Gh} {R:Rd} (a b:Value) (ha:isLit a=true) (hb:isLit b=true):qt G R (.tup [lit a,lit b]) (.tuple #[a,b]):=by
 simp only[qt,qz]
 exact⟨_,rfl,_,_,rfl,qG ha,_,_,rfl,qG hb,rfl⟩
theorem run_add64 (P:Program) (x y c:Nat) (hc:c<=1) (w:World):((Extern.MathBitsCarry.rows.getD 0 default).2 #[.int .u64 x,.int .u64 y,.int .u64 c]).run P w=.ok (.tuple #[.int .u64 ((x+y+c)%B64:Nat),.int .u64 ((x+y+c) / B64:Nat)]) w:=by
 rcases (show c=0\/c=1 by omega) with rfl|rfl<;>rfl
theorem run_sub64 (P:Program) (x y c:Nat) (hc:c<=1) (w:World):((Extern.MathBitsCarry.rows.getD 1 default).2 #[.int .u64 x,.int .u64 y,.int .u64 c]).run P w=.ok (.tuple #[.int .u64 ((x+B64-y-c)%B64:Nat),.int .u64 (if x<y+c then 1 else 0:Nat)]) w:=by
 rcases (show c=0\/c=1 by omega) with rfl|rfl<;>rfl
theorem w288 (x y c:Nat) (hc:c<=1):qA prog 230 [vU x,vU y,vU c] (qr []) (.tup [vU ((x+y+c)%B64),vU ((x+y+c) / B64)]) []:=by
 refine⟨fun k hk=>by simp[DV.qL,DV.refs] at hk,fun G w vs M hv=>.inr ?_⟩
 obtain⟨v,v',v'',rfl,h1,h2,h3⟩:=dvs_three hv
 obtain⟨rfl,_⟩:=qx h1
 obtain⟨rfl,_⟩:=qx h2
 obtain⟨rfl,_⟩:=qx h3
 refine⟨_,w,?_,G,qD M.ctx (tup_rel _ _ Z Z) bc⟩
 rw[run_callFunc_extern (e:=(Extern.MathBitsCarry.rows.getD 0 default).2) Tryz.func230 ae ae ae ae,run_add64 _ x y c hc];rfl
theorem w290 (x y c:Nat) (hc:c<=1):qA prog 232 [vU x,vU y,vU c] (qr []) (.tup [vU ((x+B64-y-c)%B64),vU (if x<y+c then 1 else 0)]) []:=by
 refine⟨fun k hk=>by simp[DV.qL,DV.refs] at hk,fun G w vs M hv=>.inr ?_⟩
 obtain⟨v,v',v'',rfl,h1,h2,h3⟩:=dvs_three hv
 obtain⟨rfl,_⟩:=qx h1
 obtain⟨rfl,_⟩:=qx h2
 obtain⟨rfl,_⟩:=qx h3
 refine⟨_,w,?_,G,qD M.ctx (tup_rel _ _ Z Z) bc⟩
 rw[run_callFunc_extern (e:=(Extern.MathBitsCarry.rows.getD 1 default).2) Tryz.func232 ae ae ae ae,run_sub64 _ x y c hc];rfl
end Go.Lens.Tb
end
section
namespace Go.Lens.Tb
open Go.Proofs Go.Lens.Un
variable [Lz]
attribute [local irreducible] TK PK T RG EfR Body CG
theorem getD_ge {l:List Nat} {i:Nat} (h:l.length<=i):l.getD i 0=0:=by
 rw[ze,List.getElem?_eq_none h];rfl
theorem trim_p {l:List Nat} {n:Int} (h1:(bif decide (0<n) then decide (((l.getD (n-1).toNat 0:Nat):Int)=0) else false)=true):0<n:=by
 by_cases h0:0<n
 ·exact h0
 rw[zk h0] at h1;cases h1
theorem trim_z {l:List Nat} {n:Int} (h:0<=n/\n<=l.length/\val B64 (l.take n.toNat)=val B64 l) (h1:(bif decide (0<n) then decide (((l.getD (n-1).toNat 0:Nat):Int)=0) else false)=true):0<=n-1/\n-1<=l.length/\val B64 (l.take (n-1).toNat)=val B64 l:=by
 obtain⟨a,b,c⟩:=h
 by_cases h0:0<n
 ·rw[zl h0,Wy,zf] at h1
  refine⟨aa,aa,?_⟩
  have e:(n-1).toNat=n.toNat-1:=aa
  rw[e] at h1 ⊢
  exact trim_next aa aa c aa
 rw[zk h0] at h1;cases h1
theorem trim_e {l:List Nat} {n:Int} (hd:Dg B64 l) (h:0<=n/\n<=l.length/\val B64 (l.take n.toNat)=val B64 l) (h1:(bif decide (0<n) then decide (((l.getD (n-1).toNat 0:Nat):Int)=0) else false)=false):l.take n.toNat=dig B64 (val B64 l):=by
 obtain⟨a,b,c⟩:=h
 refine trim_end qM hd aa c fun h0=>?_
 rw[zl (show 0<n by omega),Wy,zG] at h1
 have e:(n-1).toNat=n.toNat-1:=aa
 rw[e] at h1
 omega
def cmpN (m n:Nat):Int:=if m<n then -1 else if n<m then 1 else 0
section
variable {m n:Nat} {i:Int}
abbrev CmI (m n:Nat) (i:Int):Prop:= -1<=i/\i<(dig B64 m).length/\(dig B64 m).length=(dig B64 n).length/\(dig B64 m).drop (i+1).toNat=(dig B64 n).drop (i+1).toNat
theorem cmp_0 (h:¬(((dig B64 m).length:Nat):Int)≠(((dig B64 n).length:Nat):Int)):CmI m n (((dig B64 m).length:Int)-1):=
 ⟨aa,aa,aa,by rw[zM aa,zM aa]⟩
theorem cmp_1 (h:CmI m n i) (h2:0<=i) (h3:¬(((dig B64 m).getD i.toNat 0:Nat):Int)≠(((dig B64 n).getD i.toNat 0:Nat):Int)):CmI m n (i-1):=by
 obtain⟨a,b,c,d⟩:=h
 refine⟨aa,aa,c,?_⟩
 rw[show (i-1+1).toNat=i.toNat by omega,drop_cons (show i.toNat<(dig B64 m).length by omega),drop_cons (show i.toNat<(dig B64 n).length by omega),show i.toNat+1=(i+1).toNat by omega,d]
 congr 1
 omega
theorem cmp_lt' (h:m<n):cmpN m n= -1:=by rw[cmpN,WK h]
theorem cmp_gt' (h:n<m):cmpN m n=1:=by rw[cmpN,WJ aa,WK h]
theorem cmp_a (h:(((dig B64 m).length:Nat):Int)<(((dig B64 n).length:Nat):Int)):(-1:Int)=cmpN m n:=(cmp_lt' (ZN qM aa)).symm
theorem cmp_b (h:(((dig B64 m).length:Nat):Int)≠(((dig B64 n).length:Nat):Int)) (h2:¬(((dig B64 m).length:Nat):Int)<(((dig B64 n).length:Nat):Int)):(1:Int)=cmpN m n:=(cmp_gt' (ZN qM aa)).symm
theorem cmp_c (h:CmI m n i) (h2:0<=i) (h3:(((dig B64 m).getD i.toNat 0:Nat):Int)≠(((dig B64 n).getD i.toNat 0:Nat):Int)) (h4:(((dig B64 m).getD i.toNat 0:Nat):Int)<(((dig B64 n).getD i.toNat 0:Nat):Int)):(-1:Int)=cmpN m n:=by
 obtain⟨a,b,c,d⟩:=h
 have:=cmp_lt (β:=B64) (k:=i.toNat) (jc qM m) aa c be aa
 rw[qO qM,qO qM] at this
 exact (cmp_lt' this).symm
theorem cmp_d (h:CmI m n i) (h2:0<=i) (h3:(((dig B64 m).getD i.toNat 0:Nat):Int)≠(((dig B64 n).getD i.toNat 0:Nat):Int)) (h4:¬(((dig B64 m).getD i.toNat 0:Nat):Int)<(((dig B64 n).getD i.toNat 0:Nat):Int)):(1:Int)=cmpN m n:=by
 obtain⟨a,b,c,d⟩:=h
 have:=cmp_lt (β:=B64) (k:=i.toNat) (jc qM n) aa c.symm bf aa
 rw[qO qM,qO qM] at this
 exact (cmp_gt' this).symm
theorem cmp_e (h:CmI m n i) (h2:¬0<=i):(0:Int)=cmpN m n:=by
 obtain⟨a,b,c,d⟩:=h
 rw[show (i+1).toNat=0 by omega,J3,J3] at d
 have:m=n:=by rw[<-qO qM m,<-qO qM n,d]
 subst this
 rw[cmpN,WJ aa,WJ aa]
end
theorem Qd:aggT tab 237=some false:=ae
theorem by237:ty237.info.bytes=8:=ae
theorem in237:tab.info? 237=some ty237.info:=ae
theorem qN:szT tab 237=some 1:=ae
theorem jg:tab.underlying 95=some (.slice 237):=ae
theorem w289 (l:List Nat) (hd:Dg B64 l) (hl:l.length<=1000000000000):qA prog 231 [vL eU l] (qr []) (vL eU (dig B64 (val B64 l))) []:=by
 refine cG qf231 Z (nB Z) Z (E Z (B.nilS (enc:=eU) Z) (E Z (B.ju Z jg) (l1 (fun (n:Int)=>[(0,vL eU l),(3,vI n)]) (fun _=>[]) (fun n=>0<=n/\n<=l.length/\val B64 (List.take (toNat n) l)=val B64 l) (fun n=>toNat n) (l.length:Int) Z ?_ (sb Z Z Z) ?_)))
 · exact⟨aa,K3 _,kQ aa⟩
 intro n hI0
 refine Em Z Z Z Z ?_
 refine Em Z Z Z Z ?_
 refine Eg Z Z (fun hc=>B.sub (qu Z hc) Z bg) Z (Eg Z Z (fun hc=>B.idx (z:=0) (qu Z hc) (qu Z hc) jg qN (fun _=>rfl) (Xl bh).symm bh) Z (Eg Z Z (fun hc=>B.loadP (qu Z hc) Qd qN) Z (Eg Z Z (fun hc=>B.eql (qu Z hc) Z) Z (E Z (B.pA Z Z Z Z Z) (Cb Z Z (fun h1=>?_) (fun h1=>?_))))))
 ·refine E Z (B.sub Z Z bg) (pk Z (L1 (n-1) ?_ ?_ (sb Z Z Z)))
  · exact trim_z hI0 h1
  · (have:=trim_p h1;omega)
 exact E Z (B.slT Z Z jg qN (Xl bh).symm bh) (Rt Z (lF Z (lsl (by exact trim_e hd hI0 h1))))
theorem w251 (m n:Nat) (hm:(dig B64 m).length<=1000000000000) (hn:(dig B64 n).length<=1000000000000):qA prog 192 [vL eU (dig B64 m),vL eU (dig B64 n)] (qr []) (vI (cmpN m n)) []:=by
 refine cG qf192 Z (nB Z) Z (E Z (B.ju Z jg) (E Z (B.ju Z jg) (Cp Z Z (fun h1=>?_) (fun h1=>?_))))
 ·refine E Z (B.ju Z jg) (E Z (B.ju Z jg) (Cp Z Z (fun h2=>?_) (fun h2=>?_)))
  ·exact Rt Z (lF Z (li bi))
  exact Rt Z (lF Z (li bi))
 refine E Z (B.ju Z jg) (E Z (B.sub Z Z bg) (l1 (fun (i:Int)=>[(0,vL eU (dig B64 m)),(1,vL eU (dig B64 n)),(5,vI i)]) (fun _=>[]) (fun i=> -1<=i/\i<(dig B64 m).length/\List.length (dig B64 m)=(dig B64 n).length/\drop (toNat (i+1)) (dig B64 m)=drop (toNat (i+1)) (dig B64 n)) (fun i=>toNat (i+1)) (((dig B64 m).length:Int)-1) Z ?_ (sb Z Z Z) ?_))
 · exact cmp_0 h1
 intro i hI0
 refine Cp Z Z (fun h3=>?_) (fun h3=>?_)
 ·refine E Z (B.idx (z:=0) Z Z jg qN (fun _=>rfl) (Xl aa).symm aa) (E Z (B.idx (z:=0) Z Z jg qN (fun _=>rfl) (Xl aa).symm aa) (Dr Z ae (Cp Z Z (fun h4=>?_) (fun h4=>?_))))
  ·refine E Z (B.idx (z:=0) Z Z jg qN (fun _=>rfl) (Xl aa).symm aa) (E Z (B.idx (z:=0) Z Z jg qN (fun _=>rfl) (Xl aa).symm aa) (Dr Z ae (Cp Z Z (fun h5=>?_) (fun h5=>?_))))
   ·exact Rt Z (lF Z (li bi))
   exact Rt Z (lF Z (li bi))
  refine E Z (B.sub Z Z bg) (pk Z (L1 (i-1) ?_ ?_ (sb Z Z Z)))
  · exact cmp_1 hI0 h3 h4
  · omega
 exact Rt Z (lF Z (li bi))
theorem w250a (x y:List Nat) (hx:Dg B64 x) (hy:Dg B64 y) (hxl:x.length<=1000000) (hyl:y.length<=1000000) (hl:y.length<=x.length):qA prog 191 [vL eU x,vL eU y] (qr []) (vL eU (dig B64 ((val B64 x)+(val B64 y)))) []:=by
 refine cG qf191 Z (nB Z) Z (E Z (B.nilS (enc:=eU) Z) (E Z (B.ju Z jg) (E Z (B.ju Z jg) (Cp Z Z (fun h1=>?_) (fun h1=>?_)))))
 ·exact absurd h1 aa
 refine E Z (B.ju Z jg) (E Z (B.add Z Z bg) (E Z (B.makeSl (enc:=eU) (sz:=1) (z0:=0) (n:=(x.length+1)) (m:=(x.length+1)) Z Z Z jg in237 Z Z Z by237 aa Z Z) (E Z (B.ju Z jg) (l3 (fun (i:Nat) (c:Nat) (out:List Nat)=>[(0,vL eU x),(1,vL eU y),(5,.aref 20 0),(6,WM (c:Int)),(21,vI (x.length:Int)),(22,vI (i:Int))]) (fun _ _ out=>[(20,.arr 0 1 237 (List.map eU out))]) (fun i c out=>i<=x.length/\AddI B64 x y i out c) (fun i _ _=>x.length-i) 0 0 (replicate (x.length+1) 0) Z ?_ (sb Z Z Z) ?_))))
 · exact⟨zt _,add_init qM⟩
 intro i c out hI0
 have hol:=hI0.2.1
 refine Cp Z Z (fun h2=>?_) (fun h2=>?_)
 ·refine E Z (B.ju Z jg) (Cj [(0,vL eU x),(1,vL eU y),(5,.aref 20 0),(6,WM (c:Int)),(7,vI (i:Int)),(8,WM (((y.getD i 0):Nat):Int)),(21,vI (x.length:Int)),(22,vI (i:Int))] [(20,.arr 0 1 237 (List.map eU out))] Z Z Z (fun h3=>?_) (fun h3=>?_) ?_)
  ·replace h3:=X6 h3
   refine E Z (B.idx (z:=0) Z Z jg qN (fun _=>rfl) Z aa) (pk Z ?_)
   show Sub _ _ _
   first|exact sb rfl rfl rfl|(rw[getD_ge (l:=y) (i:=i) aa];exact sb Z Z Z)
  ·replace h3:=XM h3
   refine pk Z ?_
   show Sub _ _ _
   first|exact sb rfl rfl rfl|(rw[getD_ge (l:=y) (i:=i) aa];exact sb Z Z Z)
  have hxi:=hx.get ah i
  have hyi:=hy.get ah i
  have hc1:=hI0.2.2.2.1
  refine E Z (B.idx (z:=0) Z Z jg qN (fun _=>rfl) Z aa) (C Z (w288 (x.getD i 0) (y.getD i 0) c aa) Z Z Z (E Z (B.idxE Z Z Z jg qN Z aa) (E Z (B.setE (z0:=(((x.getD i 0)+(y.getD i 0)+c)%B64)) Z Z Z Z Z qN aa (fun _=>rfl)) (E Z (B.add Z Z bg) (pk Z (L3 (i+1) (((x.getD i 0)+(y.getD i 0)+c) / B64) (List.set out i (((x.getD i 0)+(y.getD i 0)+c)%B64)) ?_ ?_ (sb Z Z Z)))))))
  · exact⟨aa,add_next qM hI0.2 aa hx hy⟩
  · omega
 have hol:out.length=x.length+1:=hI0.2.1
 refine E Z (B.ju Z jg) (E Z (B.idxE Z Z Z jg qN Z aa) (E Z (B.setE (z0:=c) Z Z Z Z Z qN aa (fun _=>rfl)) ?_))
 have hae:=add_end qM hI0.2 aa hI0.1 aa
 have hdg:=hae.1
 have hol:out.length<=1000001:=by have:=hI0.2.1;omega
 exact Fz 14 5 Z Z Z (C Z (w289 (List.set out (x.length) c) hdg bj) Z Z Z (Rt Z (lF Z (lsl (by rw[hae.2])))))
theorem w250b (x y:List Nat) (hx:Dg B64 x) (hy:Dg B64 y) (hxl:x.length<=1000000) (hyl:y.length<=1000000) (hl:x.length<y.length):qA prog 191 [vL eU x,vL eU y] (qr []) (vL eU (dig B64 ((val B64 x)+(val B64 y)))) []:=by
 refine cG qf191 Z (nB Z) Z (E Z (B.nilS (enc:=eU) Z) (E Z (B.ju Z jg) (E Z (B.ju Z jg) (Cp Z Z (fun h1=>?_) (fun h1=>?_)))))
 ·refine E Z (B.ju Z jg) (E Z (B.add Z Z bg) (E Z (B.makeSl (enc:=eU) (sz:=1) (z0:=0) (n:=(y.length+1)) (m:=(y.length+1)) Z Z Z jg in237 Z Z Z by237 aa Z Z) (E Z (B.ju Z jg) (l3 (fun (i:Nat) (c:Nat) (out:List Nat)=>[(0,vL eU y),(1,vL eU x),(5,.aref 20 0),(6,WM (c:Int)),(21,vI (y.length:Int)),(22,vI (i:Int))]) (fun _ _ out=>[(20,.arr 0 1 237 (List.map eU out))]) (fun i c out=>i<=y.length/\AddI B64 y x i out c) (fun i _ _=>y.length-i) 0 0 (replicate (y.length+1) 0) Z ?_ (sb Z Z Z) ?_))))
  · exact⟨zt _,add_init qM⟩
  intro i c out hI0
  have hol:=hI0.2.1
  refine Cp Z Z (fun h2=>?_) (fun h2=>?_)
  ·refine E Z (B.ju Z jg) (Cj [(0,vL eU y),(1,vL eU x),(5,.aref 20 0),(6,WM (c:Int)),(7,vI (i:Int)),(8,WM (((x.getD i 0):Nat):Int)),(21,vI (y.length:Int)),(22,vI (i:Int))] [(20,.arr 0 1 237 (List.map eU out))] Z Z Z (fun h3=>?_) (fun h3=>?_) ?_)
   ·replace h3:=X6 h3
    refine E Z (B.idx (z:=0) Z Z jg qN (fun _=>rfl) Z aa) (pk Z ?_)
    show Sub _ _ _
    first|exact sb rfl rfl rfl|(rw[getD_ge (l:=x) (i:=i) aa];exact sb Z Z Z)
   ·replace h3:=XM h3
    refine pk Z ?_
    show Sub _ _ _
    first|exact sb rfl rfl rfl|(rw[getD_ge (l:=x) (i:=i) aa];exact sb Z Z Z)
   have hxi:=hy.get ah i
   have hyi:=hx.get ah i
   have hc1:=hI0.2.2.2.1
   refine E Z (B.idx (z:=0) Z Z jg qN (fun _=>rfl) Z aa) (C Z (w288 (y.getD i 0) (x.getD i 0) c aa) Z Z Z (E Z (B.idxE Z Z Z jg qN Z aa) (E Z (B.setE (z0:=(((y.getD i 0)+(x.getD i 0)+c)%B64)) Z Z Z Z Z qN aa (fun _=>rfl)) (E Z (B.add Z Z bg) (pk Z (L3 (i+1) (((y.getD i 0)+(x.getD i 0)+c) / B64) (List.set out i (((y.getD i 0)+(x.getD i 0)+c)%B64)) ?_ ?_ (sb Z Z Z)))))))
   · exact⟨aa,add_next qM hI0.2 aa hy hx⟩
   · omega
  have hol:out.length=y.length+1:=hI0.2.1
  refine E Z (B.ju Z jg) (E Z (B.idxE Z Z Z jg qN Z aa) (E Z (B.setE (z0:=c) Z Z Z Z Z qN aa (fun _=>rfl)) ?_))
  have hae:=add_end qM hI0.2 aa hI0.1 aa
  have hdg:=hae.1
  have hol:out.length<=1000001:=by have:=hI0.2.1;omega
  exact Fz 14 5 Z Z Z (C Z (w289 (List.set out (y.length) c) hdg bj) Z Z Z (Rt Z (lF Z (lsl (by rw[hae.2];rw[KC])))))
 exact absurd aa h1
theorem w250 (x y:List Nat) (hx:Dg B64 x) (hy:Dg B64 y) (hxl:x.length<=1000000) (hyl:y.length<=1000000):qA prog 191 [vL eU x,vL eU y] (qr []) (vL eU (dig B64 ((val B64 x)+(val B64 y)))) []:=by
 by_cases hl:y.length<=x.length
 ·exact w250a x y hx hy hxl hyl hl
 exact w250b x y hx hy hxl hyl aa
theorem w288z (x y:Nat):qA prog 230 [vU x,vU y,WM 0] (qr []) (.tup [vU ((x+y)%B64),vU ((x+y) / B64)]) []:=w288 x y 0 aa
theorem w252 (x y:List Nat) (hx:Dg B64 x) (hy:Dg B64 y) (hxl:x.length<=1000000) (hyl:y.length<=1000000) (hl:y.length<=x.length) (hv:val B64 y<=val B64 x):qA prog 193 [vL eU x,vL eU y] (qr []) (vL eU (dig B64 ((val B64 x)-(val B64 y)))) []:=by
 refine cG qf193 Z (nB Z) Z (E Z (B.nilS (enc:=eU) Z) (E Z (B.ju Z jg) (E Z (B.makeSl (enc:=eU) (sz:=1) (z0:=0) Z Z Z jg in237 Z Z Z by237 aa Z Z) (E Z (B.ju Z jg) (l3 (fun (i:Nat) (b:Nat) (out:List Nat)=>[(0,vL eU x),(1,vL eU y),(5,.aref 12 0),(6,WM (b:Int)),(13,vI (x.length:Int)),(14,vI (i:Int))]) (fun _ _ out=>[(12,.arr 0 1 237 (List.map eU out))]) (fun i b out=>i<=x.length/\SubI B64 x y i out b) (fun i _ _=>x.length-i) 0 0 (replicate (x.length) 0) Z ?_ (sb Z Z Z) ?_)))))
 · exact⟨zt _,sub_init qM⟩
 intro i b out hI0
 have hol:=hI0.2.1
 refine Cp Z Z (fun h1=>?_) (fun h1=>?_)
 ·refine E Z (B.ju Z jg) (Cj [(0,vL eU x),(1,vL eU y),(5,.aref 12 0),(6,WM (b:Int)),(7,vI (i:Int)),(8,WM (((y.getD i 0):Nat):Int)),(13,vI (x.length:Int)),(14,vI (i:Int))] [(12,.arr 0 1 237 (List.map eU out))] Z Z Z (fun h2=>?_) (fun h2=>?_) ?_)
  ·replace h2:=X6 h2
   refine E Z (B.idx (z:=0) Z Z jg qN (fun _=>rfl) Z aa) (pk Z ?_)
   show Sub _ _ _
   first|exact sb rfl rfl rfl|(rw[getD_ge (l:=y) (i:=i) aa];exact sb Z Z Z)
  ·replace h2:=XM h2
   refine pk Z ?_
   show Sub _ _ _
   first|exact sb rfl rfl rfl|(rw[getD_ge (l:=y) (i:=i) aa];exact sb Z Z Z)
  have hxi:=hx.get (show 0<B64 by decide) i
  have hyi:=hy.get (show 0<B64 by decide) i
  have hb1:=hI0.2.2.2.1
  refine E Z (B.idx (z:=0) Z Z jg qN (fun _=>rfl) Z aa) (C Z (w290 (x.getD i 0) (y.getD i 0) b aa) Z Z Z (E Z (B.idxE Z Z Z jg qN Z aa) (E Z (B.setE (z0:=(((x.getD i 0)+B64-(y.getD i 0)-b)%B64)) Z Z Z Z Z qN aa (fun _=>rfl)) (E Z (B.add Z Z bg) (pk Z (L3 (i+1) (if (x.getD i 0)<(y.getD i 0)+b then 1 else 0) (List.set out i (((x.getD i 0)+B64-(y.getD i 0)-b)%B64)) ?_ ?_ (sb Z Z Z)))))))
  · exact⟨aa,sub_next qM hI0.2 aa hx hy⟩
  · omega
 have hse:=sub_end qM hI0.2 aa hI0.1 hl hv
 have hdg:=hse.1
 have hol:out.length=List.length x:=hI0.2.1
 exact Fz 11 5 Z Z Z (C Z (w289 out hdg bj) Z Z Z (Rt Z (lF Z (lsl (by rw[hse.2])))))
theorem w255 (a b:List Nat) (ha:Dg B64 a) (hb:Dg B64 b) (hal:a.length<=1000000) (hbl:b.length<=1000000):qA prog 197 [vL eU a,vL eU b] (qr []) (vL eU (dig B64 ((val B64 a)*(val B64 b)))) []:=by
 refine cG qf197 Z (nB Z) Z (E Z (B.nilS (enc:=eU) Z) (E Z (B.ju Z jg) (E Z (B.ju Z jg) (E Z (B.add Z Z bg) (E Z (B.makeSl (enc:=eU) (sz:=1) (z0:=0) Z Z Z jg in237 Z Z Z by237 aa Z Z) (E Z (B.ju Z jg) (l2 (fun (i:Nat) (out:List Nat)=>[(1,vL eU b),(5,.aref 20 0),(20,vL eU a),(21,vI (a.length:Int)),(22,vI (i:Int))]) (fun _ out=>[(20,.arr 0 1 237 (List.map eU out))]) (fun i out=>i<=a.length/\MulO B64 a b i out) (fun i _=>a.length-i) 0 (replicate (a.length+b.length) 0) Z ?_ (sb Z Z Z) ?_)))))))
 · exact⟨zt _,mul_init qM⟩
 intro i out hI0
 refine Cp Z Z (fun h1=>?_) (fun h1=>?_)
 ·refine E Z (B.idx (z:=0) Z Z jg qN (fun _=>rfl) Z aa) (E Z (B.ju Z jg) (l3 (fun (j:Nat) (c:Nat) (w:List Nat)=>[(1,vL eU b),(5,.aref 20 0),(6,vI (i:Int)),(7,WM (((a.getD i 0):Nat):Int)),(8,WM (c:Int)),(20,vL eU a),(21,vI (a.length:Int)),(22,vI (i:Int)),(27,vL eU b),(28,vI (b.length:Int)),(29,vI (j:Int))]) (fun _ _ w=>[(20,.arr 0 1 237 (List.map eU w))]) (fun j c w=>j<=b.length/\MulN B64 a b i j w c) (fun j _ _=>b.length-j) 0 0 out Z ?_ (sb Z Z Z) ?_))
  · exact⟨zt _,mul_in qM hI0.2⟩
  intro j c w hI1
  refine Cp Z Z (fun h2=>?_) (fun h2=>?_)
  ·refine E Z (B.idx (z:=0) Z Z jg qN (fun _=>rfl) Z aa) ?_
   have hai:=ha.get (show 0<B64 by decide) i
   have hbj:=hb.get (show 0<B64 by decide) j
   have hwk:=hI1.2.2.1.get (show 0<B64 by decide) (i+j)
   have hcc:=hI1.2.2.2.1
   have hmac:=mac hai hbj hwk hcc
   have hm2:=hmac.2.1
   have hm3:=hmac.2.2
   have hwl:=hI1.2.1
   refine C Z (w253 (a.getD i 0) (b.getD j 0) aa aa) Z Z Z (E Z (B.add Z Z bg) (E Z (B.idxE (n:=(i+j)) Z Z Z jg qN aa aa) (E Z (B.loadE (z0:=0) Z Z Qd qN aa Z) (C Z (w288z ((a.getD i 0)*(b.getD j 0)%B64) (w.getD (i+j) 0)) Z Z Z (E Z (B.addN Z Z (XI (qd (Jj _ _) (KG hm2)) hm3)) (C Z (w288z ((((a.getD i 0)*(b.getD j 0)%B64)+(w.getD (i+j) 0))%B64) c) Z Z Z (E Z (B.add Z Z bg) (E Z (B.addN Z Z (XI (KG hm2) hm3)) (E Z (B.idxE (n:=(i+j)) Z Z Z jg qN aa aa) (E Z (B.setE (z0:=((((((a.getD i 0)*(b.getD j 0)%B64)+(w.getD (i+j) 0))%B64)+c)%B64)) Z Z Z Z Z qN aa (fun _=>rfl)) (E Z (B.add Z Z bg) (pk Z (L3 (j+1) ((((a.getD i 0)*(b.getD j 0) / B64)+((((a.getD i 0)*(b.getD j 0)%B64)+(w.getD (i+j) 0)) / B64))+((((((a.getD i 0)*(b.getD j 0)%B64)+(w.getD (i+j) 0))%B64)+c) / B64)) (List.set w (i+j) ((((((a.getD i 0)*(b.getD j 0)%B64)+(w.getD (i+j) 0))%B64)+c)%B64)) ?_ ?_ (sb Z Z Z))))))))))))))
   · (refine⟨aa,?_⟩;have hq:=mul_next qM hI1.2 ha hb aa aa;rw[<-hmac.1,<-hmac.2.1] at hq;exact hq)
   · omega
  have hwl:=hI1.2.1
  refine E Z (B.ju Z jg) (E Z (B.add Z Z bg) (E Z (B.idxE (n:=(i+b.length)) Z Z Z jg qN aa aa) (E Z (B.setE (z0:=c) Z Z Z Z Z qN aa (fun _=>rfl)) (E Z (B.add Z Z bg) (pk Z (L2 (i+1) (List.set w (i+b.length) c) ?_ ?_ (sb Z Z Z)))))))
  · exact⟨aa,mul_out qM hI1.2 aa aa hI1.1⟩
  · omega
 have hme:=mul_end hI0.2 aa
 have hdg:=hme.1
 have hwl:=hI0.2.1
 exact Fz 18 5 Z Z Z (C Z (w289 out hdg bj) Z Z Z (Rt Z (lF Z (lsl (by rw[hme.2])))))
theorem shl_swap {β:Nat} {a out:List Nat} {i K M:Nat} (h:ShlI β a K (i+1) ((out.set i (a.getD i 0*K%β+out.getD i 0)).set (i+1) (a.getD i 0 / M))/\a.getD i 0*K%β+out.getD i 0<β/\a.getD i 0*K%β=a.getD i 0%M*K):ShlI β a K (i+1) ((out.set i (out.getD i 0+a.getD i 0*K%β)).set (i+1) (a.getD i 0 / M))/\out.getD i 0+a.getD i 0*K%β<β/\a.getD i 0*K%β=a.getD i 0%M*K:=by
 rw[KC (out.getD i 0)];exact h
theorem set_same {l:List Nat} {k:Nat} (h:l.getD k 0=0):l.set k 0=l:=by
 by_cases hk:k<l.length
 ·refine List.ext_getElem ao fun j h1 h2=>?_
  rw[List.getElem_set]
  split
  ·rename_i e
   subst e
   rw[ze,zm hk] at h
   exact h.symm
  rfl
 exact List.set_eq_of_length_le aa
theorem shl_zero {a out:List Nat} {i K M v:Nat} (h:ShlI B64 a K (i+1) ((out.set i v).set (i+1) (a.getD i 0 / M))) (h0:ShlI B64 a K i out) {s:Nat} (hs:¬0<s) (hx:a.getD i 0<B64) (hM:M=B64\/0<s):ShlI B64 a K (i+1) (out.set i v):=by
 rcases hM with rfl|hM
 ·rw[Ji hx,set_same (by rw[Go.Lens.Un.getD_set_ne aa];exact h0.2.2.2.2 _ aa)] at h;exact h
 exact absurd hM hs
theorem shl_fix {a out:List Nat} {K:Nat} (h:Dg B64 out/\val B64 out=val B64 a*K/\out.length=a.length+1):out=fixd B64 (a.length+1) (val B64 a*K):=fixd_eq qM h.1 h.2.2 h.2.1
theorem w294o (l:List Nat) (s K M:Nat) (ha:Dg B64 l) (hal:l.length<=1000000) (hs:s<=63) (hK:2 ^ s=K) (hM:2 ^ (64-s)=M):qA prog 243 [vL eU l,vI (s:Int)] (qr ([])) (.aref 3012 0) ([(3012,.arr 0 1 237 (List.map eU (fixd B64 (l.length+1) (val B64 l*K))))]):=by
 refine cL 3001 ([]) qf243 Z (nB Z) Z Z (kc ?_)
 have hKM:K*M=B64:=by rw[<-hK,<-hM,<-Nat.pow_add,show s+(64-s)=64 by omega]
 have hK0:0<K:=by rw[<-hK];exact Wj ah
 refine E Z (B.nilS (enc:=eU) Z) (E Z (B.ju Z jg) (E Z (B.add Z Z bg) (E Z (B.makeSl (enc:=eU) (sz:=1) (z0:=0) Z Z Z jg in237 Z Z Z by237 bj Z Z) (E Z (B.ju Z jg) (l2 (fun (i:Nat) (out:List Nat)=>[(1,vI (s:Int)),(5,.aref 3012 0),(12,vL eU l),(13,vI (l.length:Int)),(14,vI (i:Int))]) (fun _ out=>[(3012,.arr 0 1 237 (List.map eU out))]) (fun i out=>i<=l.length/\ShlI B64 l K i out) (fun i _=>l.length-i) 0 (replicate (l.length+1) 0) Z ?_ (sb Z Z Z) ?_)))))
 · exact⟨zt _,shl_init qM hK0⟩
 intro i out hI0
 refine Cp Z Z (fun h1=>?_) (fun h1=>?_)
 ·refine E Z (B.idx (z:=0) Z Z jg qN (fun _=>rfl) Z bj) ?_
  have hxi:=ha.get (show 0<B64 by decide) i
  have hq:=shl_swap (shl_next qM hK0 hKM hI0.2 aa ha)
  have hq2:=hq.2.1
  have hq3:=hq.2.2
  have hok:=hI0.2.2.2.2.1
  have hol:=hI0.2.1
  refine E Z (B.idxE Z Z Z jg qN Z bj) (E Z (B.loadE (z0:=0) Z Z Qd qN bj Z) (E Z (B.shlJ Z Z Z aa hK) (E Z (B.orC s Z Z hK hok hq3 hq2) (E Z (B.idxE Z Z Z jg qN Z bj) (E Z (B.setE (z0:=((out.getD i 0)+((l.getD i 0)*K%B64))) Z Z Z Z Z qN bj (fun _=>rfl)) (Dr Z ae (Cp Z Z (fun h2=>?_) (fun h2=>?_))))))))
  ·refine E Z (B.add Z Z bg) (E Z (B.sub Z Z bg) (E Z (B.shrJ Z Z aa aa hM) (E Z (B.idxE (n:=(i+1)) Z Z Z jg qN aa bj) (E Z (B.setE (z0:=((l.getD i 0) / M)) Z Z Z Z Z qN bj (fun _=>rfl)) ?_))))
   have hM0:M=B64\/0<s:=by first|exact .inr aa|exact .inl bk
   refine E Z (B.add Z Z bg) (pk Z (L2 (i+1) (List.set (List.set out i ((out.getD i 0)+((l.getD i 0)*K%B64))) (i+1) ((l.getD i 0) / M)) ?_ ?_ (sb Z Z Z)))
   · (refine⟨aa,?_⟩;first|exact hq.1|exact shl_zero hq.1 hI0.2 aa hxi hM0)
   · omega
  have hM0:M=B64\/0<s:=by first|exact .inr aa|exact .inl bk
  refine E Z (B.add Z Z bg) (pk Z (L2 (i+1) (List.set out i ((out.getD i 0)+((l.getD i 0)*K%B64))) ?_ ?_ (sb Z Z Z)))
  · (refine⟨aa,?_⟩;first|exact hq.1|exact shl_zero hq.1 hI0.2 aa hxi hM0)
  · omega
 refine Rt Z ?_
 have hse:=shl_end hI0.2 aa hI0.1
 exact ZG (val0:=.aref 3012 0) (out0:=[(3012,.arr 0 1 237 (List.map eU out))]) (.inr Z) ae Z (by rw[shl_fix hse])
end Go.Lens.Tb
end
namespace Go.Lens.Tb
open Go.Proofs
abbrev CKa[Lz](f:FuncId)(ds:List DV)(val:DV):Prop:=qA prog f ds (qr []) val []
end Go.Lens.Tb
