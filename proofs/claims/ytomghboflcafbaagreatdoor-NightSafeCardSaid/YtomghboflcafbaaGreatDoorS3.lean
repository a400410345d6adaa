/- Laws of a step by step reckoning of programs, and of the functions of the program that the claims share, without conditions. -/
import Derived.Test.YtomghboflcafbaaGreatDoorS2
import Derived.MapKept
set_option linter.unusedVariables false
set_option linter.unusedSimpArgs false
set_option linter.unusedSectionVars false
section
namespace Go.Lens
variable [Lz]
noncomputable def ev1 (s:St) (x:Operand):DV:=evD (evS s x)
section
variable {P:Program} {Y:Tab} {nb:Nat} {s:St} {ops:Array Oper} {o:Oper}
theorem tmpsOf_mem {xs:List Operand} {t:Tmp} (h:Operand.tmp t∈xs):t∈tmpsOf xs:=by
 unfold tmpsOf
 exact List.mem_filterMap.2 ⟨_,h,rfl⟩
theorem qX {xs:List Operand} {x:Operand} (hx:x∈xs):evU (tmpsOf xs) s x=ev1 s x:=by
 unfold evU ev1
 congr 1
 cases x with
 | tmp t=>
  simp only[evT,evS]
  have:(tmpsOf xs).any (Nat.beq t)=true:=List.any_eq_true.2 ⟨t,tmpsOf_mem hx,Nat.beq_refl t⟩
  rw[this];rfl
 | _=>rfl
noncomputable def O0:Orc:=fun _ _ _ _=>none
theorem ke (P:Program):kB P O0:=fun _ _ _ _ _ _ h=>by cases h
open Classical in
noncomputable def one (f:FuncId) (ds:List DV) (l:List (Nat×MO)) (val:DV) (out:List (Nat×MO)):Orc:=fun f' _ ds' l'=>if f'=f/\ds'=ds/\l'=l then some (val,out) else none
theorem one_ok {f:FuncId} {ds:List DV} {l:List (Nat×MO)} {val:DV} {out:List (Nat×MO)} (h:q6 P f ds (qx l) val out):kB P (one f ds l val out):=by
 intro f' lo ds' l' v m e
 unfold one at e
 split at e
 ·rename_i hq
  obtain⟨rfl,rfl,rfl⟩:=hq
  cases e
  exact h
 cases e
theorem one_eq (f:FuncId) (ds:List DV) (l:List (Nat×MO)) (val:DV) (out:List (Nat×MO)) (lo:Nat):one f ds l val out f lo ds l=some (val,out):=by
 unfold one;rw[if_pos ⟨rfl,rfl,rfl⟩]
theorem ledM_nil (ms:List (Nat×MO)) (k:Nat):ledM ms [] k=[]:=by
 match k with
 | 0=>rfl
 | 1=>rfl
 | k+2=>simp only[ledM];rfl
theorem rdM_nil (ms:List (Nat×MO)) (k:Nat):rdM ms [] [] k=[]:=by
 match k with
 | 0=>rfl
 | 1=>rfl
 | k+2=>rfl
theorem B.of0 {O:Orc} {val0 val:DV} {m0 m:List (Nat×MO)} {lo nm:Nat} (hO:kB P O) (hr:∀ x∈o.op.operands.toList,(ev1 s x).refs=[])
  (h:effX O Y lo nm o (evU (tmpsOf o.op.operands.toList) s) []=some (val0,m0)) (hz:Frz [] val0 m0 val m) (hm:m.all (fun p=>!jJ s.ms p.1)=true):Body P Y nb s o val m []:=by
 have hrs:(o.op.operands.toList.flatMap fun x=>(evU (tmpsOf o.op.operands.toList) s x).refs)=[]:=by
  rw[List.flatMap_eq_nil_iff]
  intro x hx
  rw[qX hx];exact hr x hx
 refine .inl ⟨O,[],val0,m0,lo,nm,hO,?_,?_,?_,h,hz,?_⟩
 ·rw[hrs];exact ledM_nil _ _
 ·rw[hrs];exact rdM_nil _ _
 ·rw[hrs];rfl
 rw[<-hm]
 apply congrArg (List.all m)
 funext p
 simp[jJ,lookM_eq,ja]
theorem B.pure {O:Orc} {val:DV} {lo nm:Nat} (hO:kB P O) (hr:∀ x∈o.op.operands.toList,(ev1 s x).refs=[])
  (h:effX O Y lo nm o (evU (tmpsOf o.op.operands.toList) s) []=some (val,[])):Body P Y nb s o val [] []:=
 B.of0 hO hr h (Frz.refl _ _ _) rfl
section
variable {dst:Option Tmp} {ty u:TypeId} {pos:String} {af:Array Edge} {gd:Option (Nat×Bool)} {t:TypeId} {x y:Operand}
theorem B.move {p:PV} (h:ev1 s x=.pv p):Body P Y nb s ⟨dst,.move x,ty,pos,af,gd⟩ (.pv p) [] []:=by
 refine B.pure (lo:=0) (nm:=0) (ke P) ?_ ?_
 ·intro z hz
  have:z=x:=by simpa [Op.operands] using hz
  rw[this,h];rfl
 show mvE (evU (tmpsOf [x]) s x)=_
 rw[qX (by simp),h];rfl
theorem B.assign {p:PV} (h:ev1 s x=.pv p):Body P Y nb s ⟨dst,.assign x,ty,pos,af,gd⟩ (.pv p) [] []:=by
 refine B.pure (lo:=0) (nm:=0) (ke P) ?_ ?_
 ·intro z hz
  have:z=x:=by simpa [Op.operands] using hz
  rw[this,h];rfl
 show mvE (evU (tmpsOf [x]) s x)=_
 rw[qX (by simp),h];rfl
theorem B.bin {op:BinOp} {a b:PV} {val:DV} (hx:ev1 s x=.pv a) (hy:ev1 s y=.pv b) (h:binE Y op t (qx []) (ZC y) (.pv a) (.pv b)=some (val,[])) :
  Body P Y nb s ⟨dst,.binOp op t x y u,ty,pos,af,gd⟩ val [] []:=by
 refine B.pure (lo:=0) (nm:=0) (ke P) ?_ ?_
 ·intro z hz
  have:z=x\/z=y:=by simpa [Op.operands] using hz
  rcases this with rfl|rfl
  ·rw[hx];rfl
  rw[hy];rfl
 show binF Y op t (qx []) (ZC y) (evU (tmpsOf [x,y]) s x) (evU (tmpsOf [x,y]) s y)=_
 rw[qX (by simp),qX (by simp),hx,hy,binF_eq];exact h
theorem B.add {a b:Int} (hx:ev1 s x=lit (.int .i64 a)) (hy:ev1 s y=lit (.int .i64 b)) (h:R64 (a+b)):Body P Y nb s ⟨dst,.binOp .add t x y u,ty,pos,af,gd⟩ (lit (.int .i64 (a+b))) [] []:=by
 refine B.bin hx hy ?_
 show qE (some (in64 (a+b),lit (.int .i64 (a+b))))=_
 have:in64 (a+b)=true:=zl h
 rw[this];rfl
theorem B.sub {a b:Int} (hx:ev1 s x=lit (.int .i64 a)) (hy:ev1 s y=lit (.int .i64 b)) (h:R64 (a-b)):Body P Y nb s ⟨dst,.binOp .sub t x y u,ty,pos,af,gd⟩ (lit (.int .i64 (a-b))) [] []:=by
 refine B.bin hx hy ?_
 show qE (some (in64 (a-b),lit (.int .i64 (a-b))))=_
 have:in64 (a-b)=true:=zl h
 rw[this];rfl
theorem B.mul {a b:Int} (hx:ev1 s x=lit (.int .i64 a)) (hy:ev1 s y=lit (.int .i64 b)) (h:R64 (a*b)):Body P Y nb s ⟨dst,.binOp .mul t x y u,ty,pos,af,gd⟩ (lit (.int .i64 (a*b))) [] []:=by
 refine B.bin hx hy ?_
 show qE (some (in64 (a*b),lit (.int .i64 (a*b))))=_
 have:in64 (a*b)=true:=zl h
 rw[this];rfl
theorem B.quo {a b:Int} (hx:ev1 s x=lit (.int .i64 a)) (hy:ev1 s y=lit (.int .i64 b)) (h:b≠0/\R64 (a.tdiv b)):Body P Y nb s ⟨dst,.binOp .quo t x y u,ty,pos,af,gd⟩ (lit (.int .i64 (a.tdiv b))) [] []:=by
 refine B.bin hx hy ?_
 show qE (some (b != 0&&in64 (a.tdiv b),lit (.int .i64 (a.tdiv b))))=_
 have:in64 (a.tdiv b)=true:=zl h.2
 have h0:(b != 0)=true:=by simpa using h.1
 rw[this,h0];rfl
theorem B.rem {a b:Int} (hx:ev1 s x=lit (.int .i64 a)) (hy:ev1 s y=lit (.int .i64 b)) (h:b≠0):Body P Y nb s ⟨dst,.binOp .rem t x y u,ty,pos,af,gd⟩ (lit (.int .i64 (a.tmod b))) [] []:=by
 refine B.bin hx hy ?_
 show qE (some (b != 0,lit (.int .i64 (a.tmod b))))=_
 have h0:(b != 0)=true:=by simpa using h
 rw[h0];rfl
section
variable {k:IntKind} {a b:Int}
theorem kk (k:IntKind):(if k=k then (some true:Option Bool) else none)=some true:=if_pos rfl
theorem B.lss (hx:ev1 s x=lit (.int k a)) (hy:ev1 s y=lit (.int k b)):Body P Y nb s ⟨dst,.binOp .lss t x y u,ty,pos,af,gd⟩ (lit (.bool (decide (a<b)))) [] []:=by
 refine B.bin hx hy ?_
 cases k<;>rfl
theorem B.leq (hx:ev1 s x=lit (.int k a)) (hy:ev1 s y=lit (.int k b)):Body P Y nb s ⟨dst,.binOp .leq t x y u,ty,pos,af,gd⟩ (lit (.bool (decide (a<=b)))) [] []:=by
 refine B.bin hx hy ?_
 cases k<;>rfl
theorem B.gtr (hx:ev1 s x=lit (.int k a)) (hy:ev1 s y=lit (.int k b)):Body P Y nb s ⟨dst,.binOp .gtr t x y u,ty,pos,af,gd⟩ (lit (.bool (decide (b<a)))) [] []:=by
 refine B.bin hx hy ?_
 cases k<;>rfl
theorem B.geq (hx:ev1 s x=lit (.int k a)) (hy:ev1 s y=lit (.int k b)):Body P Y nb s ⟨dst,.binOp .geq t x y u,ty,pos,af,gd⟩ (lit (.bool (decide (b<=a)))) [] []:=by
 refine B.bin hx hy ?_
 cases k<;>rfl
theorem B.eql (hx:ev1 s x=lit (.int k a)) (hy:ev1 s y=lit (.int k b)):Body P Y nb s ⟨dst,.binOp .eql t x y u,ty,pos,af,gd⟩ (lit (.bool (decide (a=b)))) [] []:=by
 refine B.bin hx hy ?_
 have:(a==b)=decide (a=b):=rfl
 cases k<;>rfl
theorem B.neq (hx:ev1 s x=lit (.int k a)) (hy:ev1 s y=lit (.int k b)):Body P Y nb s ⟨dst,.binOp .neq t x y u,ty,pos,af,gd⟩ (lit (.bool (decide (a≠b)))) [] []:=by
 refine B.bin hx hy ?_
 have:decide (a≠b)=(a != b):=by rw[zM];simp
 rw[this]
 cases k<;>rfl
end
section
variable {a b:ByteArray}
theorem toList_inj {a b:ByteArray}:a.toList=b.toList↔a=b:=by
 constructor
 ·intro h
  rw[ByteArray.toList_eq,ByteArray.toList_eq] at h
  exact ByteArray.ext (Array.toList_inj.1 h)
 rintro rfl;rfl
theorem B.seql (hx:ev1 s x=lit (.string a)) (hy:ev1 s y=lit (.string b)):Body P Y nb s ⟨dst,.binOp .eql t x y u,ty,pos,af,gd⟩ (lit (.bool (decide (a=b)))) [] []:=by
 refine B.bin hx hy ?_
 have:decide (a=b)=(a.toList==b.toList):=by rw[zM];simp[toList_inj]
 rw[this];rfl
theorem B.sneq (hx:ev1 s x=lit (.string a)) (hy:ev1 s y=lit (.string b)):Body P Y nb s ⟨dst,.binOp .neq t x y u,ty,pos,af,gd⟩ (lit (.bool (decide (a≠b)))) [] []:=by
 refine B.bin hx hy ?_
 have:decide (a≠b)=!(a.toList==b.toList):=by rw[zM];simp[toList_inj]
 rw[this];rfl
end
theorem B.not {b:Bool} (hx:ev1 s x=lit (.bool b)):Body P Y nb s ⟨dst,.unOp .not t x,ty,pos,af,gd⟩ (lit (.bool (!b))) [] []:=by
 refine B.pure (lo:=0) (nm:=0) (ke P) ?_ ?_
 ·intro z hz
  have:z=x:=by simpa [Op.operands] using hz
  rw[this,hx];rfl
 show qE (unQ .not (evU (tmpsOf [x]) s x))=_
 rw[qX (by simp),hx];rfl
theorem B.neg {a:Int} (hx:ev1 s x=lit (.int .i64 a)) (h:R64 (0-a)):Body P Y nb s ⟨dst,.unOp .neg t x,ty,pos,af,gd⟩ (lit (.int .i64 (0-a))) [] []:=by
 refine B.pure (lo:=0) (nm:=0) (ke P) ?_ ?_
 ·intro z hz
  have:z=x:=by simpa [Op.operands] using hz
  rw[this,hx];rfl
 show qE (unQ .neg (evU (tmpsOf [x]) s x))=_
 rw[qX (by simp),hx]
 show qE (some (in64 (0-a),lit (.int .i64 (0-a))))=_
 have:in64 (0-a)=true:=zl h
 rw[this];rfl
theorem B.pick {c x y:Operand} {β x' y':Bool} {sx sy:Bool} (hc:ev1 s c=lit (.bool β)) (hrx:(evS s x).refs=[]) (hry:(evS s y).refs=[]) (hx:gdBool (ev1 s x)=some (sx,x')) (hy:gdBool (ev1 s y)=some (sy,y')) (h:(bif β then sx else sy)=true) :
  Body P Y nb s ⟨dst,.pick c x y,ty,pos,af,gd⟩ (lit (.bool (bif β then x' else y'))) [] []:=by
 refine B.pure (lo:=0) (nm:=0) (ke P) ?_ ?_
 ·intro z hz
  have:z=c\/z=x\/z=y:=by simpa [Op.operands] using hz
  rcases this with rfl|rfl|rfl
  ·rw[hc];rfl
  ·unfold ev1;rw[refs_evD];exact hrx
  unfold ev1;rw[refs_evD];exact hry
 have e1:evU (tmpsOf [c,x,y]) s c=_:=(qX (by simp)).trans hc
 have e2:evU (tmpsOf [c,x,y]) s x=_:=qX (by simp)
 have e3:evU (tmpsOf [c,x,y]) s y=_:=qX (by simp)
 have hq:qv Y (.pick c x y) (evU (tmpsOf [c,x,y]) s) (qx [])=some (true,lit (.bool (bif β then x' else y'))):=by
  simp only[qv,e1,e2,e3,lit,hx,hy,h]
 show (match effV Y 0 dst (.pick c x y) (evU (tmpsOf [c,x,y]) s) (qx []) with|some ⟨true,v,m⟩=>some (v,m)|_=>none)=_
 have:effV Y 0 dst (.pick c x y) (evU (tmpsOf [c,x,y]) s) (qx [])=ZJ (qv Y (.pick c x y) (evU (tmpsOf [c,x,y]) s) (qx [])):=rfl
 rw[this,hq];rfl
theorem qy {c:Bool} {d:DV} (h:evS s x=.gd c d) (hc:c=true):ev1 s x=d:=by
 unfold ev1;rw[h,hc];rfl
theorem gdB {c b:Bool} (h:evS s x=.gd c (lit (.bool b))):gdBool (ev1 s x)=some (c,b):=by
 unfold ev1;rw[h];cases c<;>rfl
theorem q7 (β:Bool):(bif β then true else (β==false))=true:=by cases β<;>rfl
theorem qJ (β:Bool):(bif β then (β==true) else true)=true:=by cases β<;>rfl
theorem pick_or2 {c β:Bool} (h:c=true):(bif β then true else (c&&(β==false)))=true:=by subst h;cases β<;>rfl
theorem kr {c β:Bool} (h:c=true):(bif β then (c&&(β==true)) else true)=true:=by subst h;cases β<;>rfl
theorem B.idx {α:Type} {enc:α->List PV} {l:List α} {z:α} {i:Nat} {k:IntKind} {n:Int} {e:TypeId} {sz:Nat} (hx:ev1 s x=.pv (.slice (l.map enc))) (hy:ev1 s y=lit (.int k n))
  (und:Y.underlying t=some (.slice e)) (hs:szT Y e=some sz) (hsz:∀ a,(enc a).length=sz) (hn:n=(i:Int)) (hlt:i<l.length) :
  Body P Y nb s ⟨dst,.indexAddr t x y,ty,pos,af,gd⟩ (.pv (.box (enc (l.getD i z)))) [] []:=by
 refine B.pure (lo:=0) (nm:=0) (ke P) ?_ ?_
 ·intro v hv
  have:v=x\/v=y:=by simpa [Op.operands] using hv
  rcases this with rfl|rfl
  ·rw[hx];rfl
  rw[hy];rfl
 show qE (j9 Y t (qx []) (evU (tmpsOf [x,y]) s x) (evU (tmpsOf [x,y]) s y))=_
 rw[qX (by simp),qX (by simp),hx,hy]
 show qE (jN Y t (qx []) (.pv (.slice (l.map enc))) (lit (.int k n)))=_
 unfold jN lit
 rw[und]
 simp only[hs]
 have h1:decide (0<=n/\n<((l.map enc).length:Int))=true:=by
  refine zl ⟨by omega,by rw[zJ];omega⟩
 have h2:jK sz (l.map enc)=true:=by
  unfold jK
  rw[zp]
  intro a ha
  obtain⟨b,_,rfl⟩:=zE.1 ha
  simpa using hsz b
 have h3:(l.map enc).getD n.toNat []=enc (l.getD i z):=by
  subst hn
  simp only[zU,ze,qf,zm hlt,qg,zP]
 rw[h1,h2,h3];rfl
theorem B.loadP {p:PV} {cs:List PV} (hx:ev1 s x=.pv (.box (p::cs))) (ha:aggT Y t=some false) {n:Nat} (hs:szT Y t=some n):Body P Y nb s ⟨dst,.load t x,ty,pos,af,gd⟩ (.pv p) [] []:=by
 refine B.pure (lo:=0) (nm:=0) (ke P) ?_ ?_
 ·intro z hz
  have:z=x:=by simpa [Op.operands] using hz
  rw[this,hx];rfl
 show qE (ZZ Y t (qx []) (evU (tmpsOf [x]) s x))=_
 rw[qX (by simp),hx]
 unfold ZZ
 rw[ha,hs];rfl
theorem B.loadA {ds cs:List PV} (hx:ev1 s x=.pv (.box cs)) (ha:aggT Y t=some true) {n:Nat} (hs:szT Y t=some n) (hn:n<=cs.length) (hd:cs.take n=ds):Body P Y nb s ⟨dst,.load t x,ty,pos,af,gd⟩ (.pv (.agg ds)) [] []:=by
 refine B.pure (lo:=0) (nm:=0) (ke P) ?_ ?_
 ·intro z hz
  have:z=x:=by simpa [Op.operands] using hz
  rw[this,hx];rfl
 show qE (ZZ Y t (qx []) (evU (tmpsOf [x]) s x))=_
 rw[qX (by simp),hx]
 unfold ZZ
 rw[ha,hs]
 have:decide (n<=cs.length)=true:=zl hn
 simp only[qq,this,hd];rfl
def fadQ (Y:Tab) (t:TypeId) (f:Nat):Option Nat:=match fieldOf Y t f with
 | some fd=>match szT Y fd.type with
  | some (_+1)=>some fd.offset
  | _=>none
 | none=>none
theorem fadQ_spec {f off:Nat} (h:fadQ Y t f=some off):∃ fd n,fieldOf Y t f=some fd/\szT Y fd.type=some (n+1)/\fd.offset=off:=by
 unfold fadQ at h
 split at h
 ·rename_i fd hf
  split at h
  ·rename_i n hn;cases h;exact⟨fd,n,hf,hn,rfl⟩
  cases h
 cases h
theorem B.fadP {f off:Nat} {cs cs':List PV} (hx:ev1 s x=.pv (.box cs)) (hf:fadQ Y t f=some off) (hd:cs.drop off=cs'):Body P Y nb s ⟨dst,.fieldAddr t x f,ty,pos,af,gd⟩ (.pv (.box cs')) [] []:=by
 obtain⟨fd,n,h1,h2,rfl⟩:=fadQ_spec hf
 refine B.pure (lo:=0) (nm:=0) (ke P) ?_ ?_
 ·intro z hz
  have:z=x:=by simpa [Op.operands] using hz
  rw[this,hx];rfl
 show qE (jD Y t f (qx []) (evU (tmpsOf [x]) s x))=_
 rw[qX (by simp),hx]
 unfold jD
 simp only[h1,h2,hd];rfl
theorem B.Z9 {f off h c c':Nat} (hx:ev1 s x=.bref h c) (hf:fadQ Y t f=some off) (hc:c+off=c'):Body P Y nb s ⟨dst,.fieldAddr t x f,ty,pos,af,gd⟩ (.bref h c') [] []:=by
 obtain⟨fd,n,h1,h2,rfl⟩:=fadQ_spec hf
 have e:evU (tmpsOf [x]) s x=.bref h c:=(qX (by simp)).trans hx
 refine .inl ⟨O0,[(h,.gone)],_,_,0,0,ke P,?_,?_,?_,?_,Frz.refl _ _ _,rfl⟩
 ·show ledM s.ms ([x].flatMap fun x'=>(evU (tmpsOf [x]) s x').refs) (lvl (.fieldAddr t x f) (evU (tmpsOf [x]) s))=_
  simp only[List.flatMap_cons,List.flatMap_nil,zS,lvl,e,DV.refs,ledM,zw,zZ]
 ·show rdM s.ms ([x].flatMap fun x'=>(evU (tmpsOf [x]) s x').refs) [(h,.gone)] (lvl (.fieldAddr t x f) (evU (tmpsOf [x]) s))=_
  simp only[List.flatMap_cons,List.flatMap_nil,zS,lvl,e,DV.refs,rdM]
 ·show (jk [(h,.gone)]&&([x].flatMap fun x'=>(evU (tmpsOf [x]) s x').refs).all (jJ [(h,.gone)]))=true
  simp[e,DV.refs,jk,MO.refs,jJ,qM]
 show qE (jD Y t f (qx [(h,.gone)]) (evU (tmpsOf [x]) s x))=_
 rw[e]
 unfold jD
 simp only[h1,h2,hc];rfl
theorem ledB {h c:Nat} {T:TypeId} {ds:List DV} {ms:List (Nat×MO)} (hm:qx ms h=some (.box T ds)) (hr:DV.qT ds=[]):ledM ms (DV.bref h c).refs 1=[(h,.box T ds)]/\rdM ms (DV.bref h c).refs [(h,.box T ds)] 1=[h]:=by
 simp only[DV.refs,ledM,nearM,rdM,sel,hm,List.flatMap_cons,List.flatMap_nil,MO.refs,hr,zS,zZ,zw,and_self]
theorem B.jP {h c:Nat} {T:TypeId} {ds:List DV} {d:DV} (hx:ev1 s x=.bref h c) (hm:qx s.ms h=some (.box T ds)) (hr:DV.qT ds=[]) (ha:aggT Y t=some false) {n:Nat} (hs:szT Y t=some n) (hd:ds[c]? =some d) :
  Body P Y nb s ⟨dst,.load t x,ty,pos,af,gd⟩ d [] [h]:=by
 have e:evU (tmpsOf [x]) s x=.bref h c:=(qX (by simp)).trans hx
 have hc:c<ds.length:=(List.getElem?_eq_some_iff.1 hd).1
 refine .inl ⟨O0,[(h,.box T ds)],_,_,0,0,ke P,?_,?_,?_,?_,Frz.refl _ _ _,rfl⟩
 ·show ledM s.ms ([x].flatMap fun x'=>(evU (tmpsOf [x]) s x').refs) 1=_
  simp only[List.flatMap_cons,List.flatMap_nil,zS,e];exact (ledB hm hr).1
 ·show rdM s.ms ([x].flatMap fun x'=>(evU (tmpsOf [x]) s x').refs) [(h,.box T ds)] 1=_
  simp only[List.flatMap_cons,List.flatMap_nil,zS,e];exact (ledB hm hr).2
 ·show (jk [(h,.box T ds)]&&([x].flatMap fun x'=>(evU (tmpsOf [x]) s x').refs).all (jJ [(h,.box T ds)]))=true
  simp[e,DV.refs,jk,MO.refs,jJ,qM,hr]
 show qE (ZZ Y t (qx [(h,.box T ds)]) (evU (tmpsOf [x]) s x))=_
 rw[e]
 unfold ZZ
 rw[ha,hs]
 have:decide (c<ds.length)=true:=zl hc
 have e2:qx [(h,MO.box T ds)] h=some (.box T ds):=by rw[qM,if_pos rfl]
 simp only[e2,qp,qr,this,ze,hd,zP];rfl
theorem B.loadBA {h c:Nat} {T:TypeId} {ds:List DV} {d:DV} (hx:ev1 s x=.bref h c) (hm:qx s.ms h=some (.box T ds)) (hr:DV.qT ds=[]) (ha:aggT Y t=some true) {n:Nat} (hs:szT Y t=some n) (hc:Nat.ble (c+n) ds.length=true) (hd:mkAgg ((ds.drop c).take n)=d) :
  Body P Y nb s ⟨dst,.load t x,ty,pos,af,gd⟩ d [] [h]:=by
 have e:evU (tmpsOf [x]) s x=.bref h c:=(qX (by simp)).trans hx
 refine .inl ⟨O0,[(h,.box T ds)],_,_,0,0,ke P,?_,?_,?_,?_,Frz.refl _ _ _,rfl⟩
 ·show ledM s.ms ([x].flatMap fun x'=>(evU (tmpsOf [x]) s x').refs) 1=_
  simp only[List.flatMap_cons,List.flatMap_nil,zS,e];exact (ledB hm hr).1
 ·show rdM s.ms ([x].flatMap fun x'=>(evU (tmpsOf [x]) s x').refs) [(h,.box T ds)] 1=_
  simp only[List.flatMap_cons,List.flatMap_nil,zS,e];exact (ledB hm hr).2
 ·show (jk [(h,.box T ds)]&&([x].flatMap fun x'=>(evU (tmpsOf [x]) s x').refs).all (jJ [(h,.box T ds)]))=true
  simp[e,DV.refs,jk,MO.refs,jJ,qM,hr]
 show qE (ZZ Y t (qx [(h,.box T ds)]) (evU (tmpsOf [x]) s x))=_
 rw[e]
 unfold ZZ
 rw[ha,hs]
 have:decide (c+n<=ds.length)=true:=zl (zY hc)
 have e2:qx [(h,MO.box T ds)] h=some (.box T ds):=by rw[qM,if_pos rfl]
 simp only[e2,qq,this,hd];rfl
theorem B.lenQ1 {a:PV} {d:DV} {at':TypeId} (hx:ev1 s x=.pv a) (h:lenQ Y at' (qx []) (.pv a)=some (true,d)):Body P Y nb s ⟨dst,.call ⟨.builtin .len,⟨[x]⟩,⟨[at']⟩⟩,ty,pos,af,gd⟩ d [] []:=by
 refine B.pure (lo:=0) (nm:=0) (ke P) ?_ ?_
 ·intro z hz
  have:z=x:=by simpa [Op.operands,Call.operands] using hz
  rw[this,hx];rfl
 have e:evU (tmpsOf [x]) s x=.pv a:=(qX (by simp)).trans hx
 show (match ZJ (lenQ Y at' (qx []) (evU (tmpsOf [x]) s x)) with|some ⟨true,v,m⟩=>some (v,m)|_=>none)=_
 rw[e,h];rfl
theorem B.jh {α:Type} {enc:α->List PV} {l:List α} {at' e:TypeId} (hx:ev1 s x=.pv (.slice (l.map enc))) (hu:Y.underlying at'=some (.slice e)):Body P Y nb s ⟨dst,.call ⟨.builtin .len,⟨[x]⟩,⟨[at']⟩⟩,ty,pos,af,gd⟩ (lit (.int .i64 (l.length:Int))) [] []:=by
 refine B.lenQ1 hx ?_
 unfold lenQ
 rw[hu]
 simp[lenOf]
theorem B.lenS {a:ByteArray} {at':TypeId} (hx:ev1 s x=lit (.string a)) (hu:Y.underlying at'=some .string):Body P Y nb s ⟨dst,.call ⟨.builtin .len,⟨[x]⟩,⟨[at']⟩⟩,ty,pos,af,gd⟩ (lit (.int .i64 (a.size:Int))) [] []:=by
 refine B.lenQ1 hx ?_
 unfold lenQ
 rw[hu]
theorem B.max {y:Operand} {k:IntKind} {a b:Int} {ats:Array TypeId} (hx:ev1 s x=lit (.int k a)) (hy:ev1 s y=lit (.int k b)):Body P Y nb s ⟨dst,.call ⟨.builtin .max,⟨[x,y]⟩,ats⟩,ty,pos,af,gd⟩ (lit (.int k (Max.max a b))) [] []:=by
 refine B.pure (lo:=0) (nm:=0) (ke P) ?_ ?_
 ·intro z hz
  have:z=x\/z=y:=by simpa [Op.operands,Call.operands] using hz
  rcases this with rfl|rfl
  ·rw[hx];rfl
  rw[hy];rfl
 have e1:evU (tmpsOf [x,y]) s x=_:=(qX (by simp)).trans hx
 have e2:evU (tmpsOf [x,y]) s y=_:=(qX (by simp)).trans hy
 show (match ZJ (maxQ2 true [evU (tmpsOf [x,y]) s x,evU (tmpsOf [x,y]) s y]) with|some ⟨true,v,m⟩=>some (v,m)|_=>none)=_
 rw[e1,e2]
 have:(if a<b then b else a)=Max.max a b:=by rw[Int.max_def];split<;>split<;>omega
 simp only[maxQ2,lit,qq,this,ZJ]
theorem B.min {y:Operand} {k:IntKind} {a b:Int} {ats:Array TypeId} (hx:ev1 s x=lit (.int k a)) (hy:ev1 s y=lit (.int k b)):Body P Y nb s ⟨dst,.call ⟨.builtin .min,⟨[x,y]⟩,ats⟩,ty,pos,af,gd⟩ (lit (.int k (Min.min a b))) [] []:=by
 refine B.pure (lo:=0) (nm:=0) (ke P) ?_ ?_
 ·intro z hz
  have:z=x\/z=y:=by simpa [Op.operands,Call.operands] using hz
  rcases this with rfl|rfl
  ·rw[hx];rfl
  rw[hy];rfl
 have e1:evU (tmpsOf [x,y]) s x=_:=(qX (by simp)).trans hx
 have e2:evU (tmpsOf [x,y]) s y=_:=(qX (by simp)).trans hy
 show (match ZJ (maxQ2 false [evU (tmpsOf [x,y]) s x,evU (tmpsOf [x,y]) s y]) with|some ⟨true,v,m⟩=>some (v,m)|_=>none)=_
 rw[e1,e2]
 have:(if b<a then b else a)=Min.min a b:=by rw[Int.min_def];split<;>split<;>omega
 simp only[maxQ2,lit,qq,qp,qr,this,ZJ]
theorem B.slT {α:Type} {enc:α->List PV} {l:List α} {hi:Operand} {k:IntKind} {n:Int} {j:Nat} {e:TypeId} {sz:Nat} (hx:ev1 s x=.pv (.slice (l.map enc))) (hy:ev1 s hi=lit (.int k n)) (hu:Y.underlying t=some (.slice e)) (hs:szT Y e=some sz) (hn:n=(j:Int)) (hj:j<=l.length) :
  Body P Y nb s ⟨dst,.slice t x none (some hi) none,ty,pos,af,gd⟩ (.pv (.slice ((l.take j).map enc))) [] []:=by
 refine B.pure (lo:=0) (nm:=0) (ke P) ?_ ?_
 ·intro z hz
  have:z=x\/z=hi:=by simpa [Op.operands] using hz
  rcases this with rfl|rfl
  ·rw[hx];rfl
  rw[hy];rfl
 have e1:evU (tmpsOf [x,hi]) s x=_:=(qX (by simp)).trans hx
 have e2:evU (tmpsOf [x,hi]) s hi=_:=(qX (by simp)).trans hy
 have hv:effV Y 0 dst (.slice t x none (some hi) none) (evU (tmpsOf [x,hi]) s) (qx [])=ZJ (kL Y t (qx []) (evU (tmpsOf [x,hi]) s x) none (some (evU (tmpsOf [x,hi]) s hi)) none):=rfl
 show (match effV Y 0 dst (.slice t x none (some hi) none) (evU (tmpsOf [x,hi]) s) (qx []) with|some ⟨true,v,m⟩=>some (v,m)|_=>none)=_
 rw[hv,e1,e2]
 have hq:kL Y t (qx []) (.pv (.slice (l.map enc))) none (some (lit (.int k n))) none=some (true,.pv (.slice ((l.take j).map enc))):=by
  show kn Y t (qx []) (.pv (.slice (l.map enc))) none (some (lit (.int k n))) none=_
  unfold kn lit
  simp only[hu,bound,hs,zP]
  subst hn
  have:decide (0<=(j:Int)/\(j:Int)<=((l.map enc).length:Int))=true:=zl ⟨by omega,by rw[zJ];omega⟩
  rw[this,zU,List.map_take]
 rw[hq];rfl
end
noncomputable def bodyX (Y:Tab) (nb:Nat) (s:St) (o:Oper):Option (DV×List (Nat×MO)×List Nat):=
 let xs:=o.op.operands.toList
 let ev:=evU (tmpsOf xs) s
 let rs:=xs.flatMap fun x=>(ev x).refs
 let l:=ledM s.ms rs (lvl o.op ev)
 bif jk l&&rs.all (jJ l) then
  match effX O0 Y (maxN s.ms nb) (nameOf nb s.ms o.dst) o ev l with
  | some (val,m)=>bif m.all (fun p=>jJ l p.1||!jJ s.ms p.1) then some (val,m,rdM s.ms rs l (lvl o.op ev)) else none
  | none=>none
 else none
theorem B.jj {val0 val:DV} {m0 m:List (Nat×MO)} {rd:List Nat} (h:bodyX Y nb s o=some (val0,m0,rd)) (hz:∀ l,Frz l val0 m0 val m) (hk:m.map (·.1)=m0.map (·.1)):Body P Y nb s o val m rd:=by
 unfold bodyX at h
 simp only at h
 generalize hl:ledM s.ms (o.op.operands.toList.flatMap fun x=>(evU (tmpsOf o.op.operands.toList) s x).refs) (lvl o.op (evU (tmpsOf o.op.operands.toList) s))=l at h
 cases hq:(jk l&&(o.op.operands.toList.flatMap fun x=>(evU (tmpsOf o.op.operands.toList) s x).refs).all (jJ l)) with
 | false=>rw[hq] at h;cases h
 | true=>
  rw[hq] at h
  simp only[cond_true] at h
  split at h
  ·rename_i v mm he
   cases hq2:(mm.all fun p=>jJ l p.1||!jJ s.ms p.1) with
   | false=>rw[hq2] at h;cases h
   | true=>
    rw[hq2] at h
    simp only[cond_true,zh,zu] at h
    obtain⟨e1,e2,hrd⟩:=h
    subst e1;subst e2
    refine .inl ⟨O0,l,_,_,_,_,ke P,hl,hrd,hq,he,hz l,?_⟩
    rw[zp] at hq2 ⊢
    intro p hp
    have:p.1∈mm.map (·.1):=by rw[<-hk];exact zE.2 ⟨p,hp,rfl⟩
    obtain⟨q,hq,e⟩:=zE.1 this
    rw[<-e];exact hq2 q hq
  cases h
theorem B.run {val:DV} {m:List (Nat×MO)} {rd:List Nat} (h:bodyX Y nb s o=some (val,m,rd)):Body P Y nb s o val m rd:=
 B.jj h (fun l=>Frz.refl l _ _) rfl
theorem Frz.arr (l:List (Nat×MO)) (h v sz:Nat) (T:TypeId) (es:List (List PV)):Frz l (.aref h v) [(h,.arr v sz T es)] (.pv (.slice es)) [(h,.farr v es)]:=by
 intro G w G1 w1 r M S
 have M1:=M.out S
 obtain⟨G2,S2⟩:=frz_stepped M1 (h:=h) (o:=.farr v es) (by simp[ky,upd,ja])
 have S3:=S.trans M S2
 have e:mrg [(h,MO.farr v es)] [(h,MO.arr v sz T es)]=[(h,MO.farr v es)]:=by simp[mrg,ja]
 rw[e] at S3
 refine⟨G2,{ S3 with hval:=?_,refs:=by simp[DV.refs] }⟩
 have hv:=qz.mono (G:=G1) S2.later.rd _ _ (fun k hk=>S2.keeps k (.arr v sz T es) (by
  simp only[DV.refs,zg] at hk;subst hk;simp[upd,ja])) S.hval
 simp only[qz]
 exact jm (d:=.aref h v) (look:=fun k=>if k=h then some (.farr v es) else none) (fun k m hk=>by
  split at hk
  ·rename_i e;subst e;cases hk;exact S2.hms _ _ (by simp)
  cases hk) (by simp[pvOf]) hv
theorem EfR.on {val:DV} {m:List (Nat×MO)} {rd:List Nat} (hg:gcond ops s o.guard=some true) (h:Body P Y nb s o val m rd):EfR P Y nb ops s o ⟨o.dst,val,m,rd⟩:=
 ⟨true,val,m,rd,hg,fun _=>h,.inl ⟨rfl,rfl⟩⟩
theorem EfR.off (hg:gcond ops s o.guard=some false):EfR P Y nb ops s o ⟨o.dst,.gd false (lit (.bool false)),[],[]⟩:=
 ⟨false,.dead,[],[],hg,fun h=>(by cases h),.inr (.inl ⟨rfl,rfl⟩)⟩
theorem EfR.sym {c:Bool} {val:DV} {rd:List Nat} (hg:gcond ops s o.guard=some c) (h:c=true->Body P Y nb s o val [] rd) (hr:refsIn s o val=true):EfR P Y nb ops s o ⟨o.dst,.gd c val,[],rd⟩:=
 ⟨c,val,[],rd,hg,h,.inr (.inr ⟨rfl,hr,rfl⟩)⟩
end
def byteAt (s:ByteArray) (i:Nat):Int:=((s.data.toList.getD i 0).toNat:Int)
section
variable {P:Program} {Y:Tab} {nb:Nat} {s:St} {ops:Array Oper} {o:Oper} {dst:Option Tmp} {ty u:TypeId} {pos:String} {af:Array Edge} {gd:Option (Nat×Bool)} {t:TypeId} {x y:Operand}
theorem B.sidx {a:ByteArray} {k:IntKind} {n:Int} {i:Nat} (hx:ev1 s x=lit (.string a)) (hy:ev1 s y=lit (.int k n)) (und:Y.underlying t=some .string) (hn:n=(i:Int)) (hlt:i<a.size) :
  Body P Y nb s ⟨dst,.index t x y,ty,pos,af,gd⟩ (lit (.int .u8 (byteAt a i))) [] []:=by
 refine B.pure (lo:=0) (nm:=0) (ke P) ?_ ?_
 ·intro v hv
  have:v=x\/v=y:=by simpa [Op.operands] using hv
  rcases this with rfl|rfl
  ·rw[hx];rfl
  rw[hy];rfl
 show qE (indexQ Y t (evU (tmpsOf [x,y]) s x) (evU (tmpsOf [x,y]) s y))=_
 rw[qX (by simp),qX (by simp),hx,hy]
 unfold indexQ lit
 rw[und]
 subst hn
 have h1:decide (0<=(i:Int)/\(i:Int)<(a.size:Int))=true:=zl ⟨by omega,by omega⟩
 simp only[h1,zU];rfl
theorem B.toI {k:IntKind} {a:Int} {t':TypeId} {d:TypeDesc} (hx:ev1 s x=lit (.int k a)) (hu:Y.underlying t=some d) (hu':Y.underlying t'=some (.int .i64)) (h:R64 a) (hs:s2bV Y t t' (lit (.int k a))=none) :
  Body P Y nb s ⟨dst,.convert t t' x,ty,pos,af,gd⟩ (lit (.int .i64 a)) [] []:=by
 refine B.pure (lo:=0) (nm:=0) (ke P) ?_ ?_
 ·intro z hz
  have:z=x:=by simpa [Op.operands] using hz
  rw[this,hx];rfl
 have e1:evU (tmpsOf [x]) s x=_:=(qX (by simp)).trans hx
 show (match s2bV Y t t' (evU (tmpsOf [x]) s x) with|some ⟨true,v,m⟩=>some (v,m)|some _=>none|none=>qE (convW Y t t' (qx []) (evU (tmpsOf [x]) s x)))=_
 rw[e1,hs]
 show qE (convQ Y t t' (lit (.int k a)))=_
 unfold convQ lit
 rw[hu,hu']
 have:in64 a=true:=zl h
 simp only[wrapB,wrapN,this];rfl
theorem call_ops {f:Operand} {args:Array Operand} {ats:Array TypeId}:(Op.call ⟨.value f,args,ats⟩).operands.toList=f::args.toList:=by
 simp[Op.operands,Call.operands]
theorem tgtX_refs {d:DV} {fid:FuncId} {first caps:List DV} (h:tgtX d=some (fid,first,caps)):d.refs=DV.qT first++DV.qT caps:=by
 have hp:∀ ps:List PV,DV.qT (ps.map .pv)=[]:=by
  intro ps
  induction ps with
  | nil=>rfl
  | cons p ps ih=>simp only[zw,DV.qT,DV.refs,ih,zS]
 unfold tgtX at h
 split at h
 ·cases h;simp only[DV.refs,hp,zS]
 ·cases h;rfl
 cases h
theorem refsL_app (a b:List DV):DV.qT (a++b)=DV.qT a++DV.qT b:=by
 induction a with
 | nil=>rfl
 | cons d a ih=>simp only[zQ,DV.qT,ih,z7]
theorem B.call {f:Operand} {args:Array Operand} {ats:Array TypeId} {fid:FuncId} {first caps ds:List DV} {val:DV} (H:q6 P fid ds (qx []) val []) (hf:tgtX (ev1 s f)=some (fid,first,caps))
  (hds:first++args.toList.map (ev1 s)++caps=ds) (hr:DV.qT ds=[]):Body P Y nb s ⟨dst,.call ⟨.value f,args,ats⟩,ty,pos,af,gd⟩ val [] []:=by
 have hr2:=hr
 rw[<-hds,refsL_app,refsL_app] at hr2
 simp only[List.append_eq_nil_iff] at hr2
 obtain⟨⟨hr1,hr2⟩,hr3⟩:=hr2
 refine B.pure (lo:=0) (nm:=0) (one_ok H) ?_ ?_
 ·intro z hz
  rw[call_ops] at hz
  rcases zF.1 hz with rfl|hz
  ·rw[tgtX_refs hf,hr1,hr3];rfl
  have:∀ (l:List DV),DV.qT l=[]->∀ d∈l,d.refs=[]:=by
   intro l
   induction l with
   | nil=>intro _ d hd;cases hd
   | cons e l ih=>
    intro h d hd
    simp only[DV.qT,List.append_eq_nil_iff] at h
    rcases zF.1 hd with rfl|hd
    ·exact h.1
    exact ih h.2 d hd
  exact this _ hr2 _ (zE.2 ⟨z,hz,rfl⟩)
 show callE (one fid ds [] val []) 0 ⟨.value f,args,ats⟩ (evU (tmpsOf (Op.call ⟨.value f,args,ats⟩).operands.toList) s) []=_
 rw[call_ops]
 have e1:evU (tmpsOf (f::args.toList)) s f=ev1 s f:=qX (by simp)
 have e2:args.toList.map (evU (tmpsOf (f::args.toList)) s)=args.toList.map (ev1 s):=List.map_congr_left fun z hz=>qX (by simp[hz])
 unfold callE
 simp only[e1,hf,e2,hds,hr,one_eq];rfl
theorem ds1 {x1:Operand} {d1:DV} (h1:ev1 s x1=d1):([]:List DV)++([x1]:List Operand).map (ev1 s)++[]=[d1]:=by simp[h1]
theorem ds2 {x1 x2:Operand} {d1 d2:DV} (h1:ev1 s x1=d1) (h2:ev1 s x2=d2):([]:List DV)++([x1,x2]:List Operand).map (ev1 s)++[]=[d1,d2]:=by simp[h1,h2]
theorem ds3 {x1 x2 x3:Operand} {d1 d2 d3:DV} (h1:ev1 s x1=d1) (h2:ev1 s x2=d2) (h3:ev1 s x3=d3):([]:List DV)++([x1,x2,x3]:List Operand).map (ev1 s)++[]=[d1,d2,d3]:=by simp[h1,h2,h3]
theorem Frz.nil {l:List (Nat×MO)} {h sz:Nat} {T:TypeId} (hl:qx l h=none):Frz l .nils [] (.aref h 0) [(h,.arr 0 sz T [])]:=by
 intro G w G1 w1 r M S
 have hv:=S.hval
 simp only[qz] at hv
 refine⟨G1.turn h ⟨none,0,0,sz,0,0,true⟩,⟨⟨S.later.base,S.later.R0,S.later.R0c,S.later.R0m,S.later.os,S.later.tape,S.later.output,S.later.size,S.later.cold⟩,?_,?_,?_,?_,S.fresh,?_,?_,?_,S.newb,S.r0,S.r0m⟩⟩
 ·simp only[qz,Gh.turn,qq]
  exact⟨zz _,fun _=>hv⟩
 ·intro k o hk
  simp only[zg,zu] at hk
  obtain⟨rfl,rfl⟩:=hk
  simp only[jc,Gh.turn,qq]
  exact⟨trivial,trivial,trivial,rfl,zz _,(by simp),.inl ⟨trivial,trivial⟩⟩
 ·intro k o hk
  have hne:k≠h:=by rintro rfl;rw[hl] at hk;cases hk
  have:=S.keeps k o hk
  unfold Gh.keeps at this ⊢
  simp only[Gh.turn,hne,qr];exact this
 ·intro k hk
  simp only[zw,zZ,zg] at hk
  have:=S.old k (by simp)
  simp only[Gh.turn,hk,qr];exact this
 ·intro b k hk
  rcases S.own b k hk with e|e
  ·simp at e
  exact .inr e
 ·intro k hk
  simp only[DV.refs,zg] at hk
  exact .inl (by simp[hk])
 intro k o hk k2 hh
 simp only[zg,zu] at hk
 obtain⟨rfl,rfl⟩:=hk
 simp[MO.refs] at hh
theorem B.adopt (h sz:Nat) (T:TypeId) (hx:ev1 s x=.nils) (hh:jJ s.ms h=false):Body P Y nb s ⟨dst,.assign x,ty,pos,af,gd⟩ (.aref h 0) [(h,.arr 0 sz T [])] []:=by
 refine B.of0 (val0:=.nils) (m0:=[]) (lo:=0) (nm:=0) (ke P) ?_ ?_ (Frz.nil Z) ?_
 ·intro z hz
  have:z=x:=by simpa [Op.operands] using hz
  rw[this,hx];rfl
 ·show mvE (evU (tmpsOf [x]) s x)=_
  rw[qX (by simp),hx];rfl
 simp[hh]
theorem B.append {α:Type} {enc:α->List PV} {l r:List α} {h v sz:Nat} {T:TypeId} {i:TypeInfo} {at1:TypeId} {d:Tmp} (hx:ev1 s x=.aref h v) (hm:qx s.ms h=some (.arr v sz T (l.map enc))) (hy:ev1 s y=.pv (.slice (r.map enc)))
  (hu:Y.underlying at1=some (.slice T)) (hi:Y.info? T=some i) (hok:(Nat.blt 0 i.size&&i.zero.isSome&&Nat.beq (i.zero.getD default).cells.size i.size&&Nat.beq sz i.size)=true) (hsz:∀ a,(enc a).length=sz) {bs:Nat} (hbs:i.bytes=bs)
  (hlen:(l.length+r.length)*bs<=140737488355328/\l.length+r.length<=9223372036854775807) :
  Body P Y nb s ⟨some d,.call ⟨.builtin .append,⟨[x,y]⟩,⟨[at1,at1]⟩⟩,ty,pos,af,gd⟩ (.aref h (v+1)) [(h,.arr (v+1) sz T ((l++r).map enc))] [h]:=by
 subst hbs
 simp only[zj,Nat.beq_eq,Nat.blt_eq] at hok
 obtain⟨⟨⟨k1,k2⟩,k3⟩,k4⟩:=hok
 subst k4
 have e1:evU (tmpsOf [x,y]) s x=.aref h v:=(qX (by simp)).trans hx
 have e2:evU (tmpsOf [x,y]) s y=.pv (.slice (r.map enc)):=(qX (by simp)).trans hy
 have hrs:([x,y].flatMap fun x'=>(evU (tmpsOf [x,y]) s x').refs)=[h]:=by simp[e1,e2,DV.refs]
 have hsel:sel s.ms (ZU s.ms 10000 [h] [])=[(h,.arr v i.size T (l.map enc))]:=by
  have:ZU s.ms 10000 [h] []=[h]:=by
   show (bif ([]:List Nat).any (Nat.beq h) then _ else _)=_
   simp only[List.any_nil,cond_false,hm,MO.refs,zW];rfl
  rw[this];simp only[sel,hm]
 refine .inl ⟨O0,[(h,.arr v i.size T (l.map enc))],_,_,0,0,ke P,?_,?_,?_,?_,Frz.refl _ _ _,?_⟩
 ·show ledM s.ms ([x,y].flatMap fun x'=>(evU (tmpsOf [x,y]) s x').refs) 2=_
  rw[hrs];exact hsel
 ·show rdM s.ms ([x,y].flatMap fun x'=>(evU (tmpsOf [x,y]) s x').refs) [(h,.arr v i.size T (l.map enc))] 2=_
  rw[hrs];rfl
 ·show (jk [(h,.arr v i.size T (l.map enc))]&&([x,y].flatMap fun x'=>(evU (tmpsOf [x,y]) s x').refs).all (jJ [(h,.arr v i.size T (l.map enc))]))=true
  rw[hrs]
  simp[jk,MO.refs,jJ,qM]
 ·have ha:appendV Y 0 at1 at1 (.aref h v) (.pv (.slice (r.map enc))) (qx [(h,.arr v i.size T (l.map enc))]) (qx [(h,.arr v i.size T (l.map enc))])=some ⟨true,.aref h (v+1),[(h,.arr (v+1) i.size T ((l++r).map enc))]⟩:=by
   unfold appendV
   have hl:qx [(h,MO.arr v i.size T (l.map enc))] h=some (.arr v i.size T (l.map enc)):=by rw[qM,if_pos rfl]
   have hs:srcOf Y at1 at1 i (qx [(h,.arr v i.size T (l.map enc))]) (.aref h v) (.pv (.slice (r.map enc)))=some (r.map enc):=by
    unfold srcOf;simp[conts]
   have hq:(decide (0<i.size)&&i.zero.isSome&&decide ((i.zero.getD default).cells.size=i.size))=true:=by
    simp only[zj,zf];exact⟨⟨k1,k2⟩,k3⟩
   have hal:jK i.size (r.map enc)=true:=by
    unfold jK
    rw[zp]
    intro a ha
    obtain⟨b,_,rfl⟩:=zE.1 ha
    simpa using hsz b
   have hle:decide (((l.map enc).length+(r.map enc).length)*i.bytes<=140737488355328/\(l.map enc).length+(r.map enc).length<=9223372036854775807)=true:=by
    simp only[zJ];exact zl hlen
   simp only[hu,hi,hs,hq,hl,qq,and_self,hal,hle,Bool.and_self,qd]
  have hv:effV Y 0 (some d) (.call ⟨.builtin .append,⟨[x,y]⟩,⟨[at1,at1]⟩⟩) (evU (tmpsOf [x,y]) s) (qx [(h,.arr v i.size T (l.map enc))])=some ⟨true,.aref h (v+1),[(h,.arr (v+1) i.size T ((l++r).map enc))]⟩:=by
   show (match truncU _ (evU (tmpsOf [x,y]) s x) with|some (d',h',m)=>_|none=>appendV Y 0 at1 at1 (evU (tmpsOf [x,y]) s x) (evU (tmpsOf [x,y]) s y) _ _)=_
   rw[e1,e2]
   exact ha
  show (match effV Y 0 (some d) (.call ⟨.builtin .append,⟨[x,y]⟩,⟨[at1,at1]⟩⟩) (evU (tmpsOf [x,y]) s) (qx [(h,.arr v i.size T (l.map enc))]) with|some ⟨true,v,m⟩=>some (v,m)|_=>none)=_
  rw[hv]
 simp[jJ,qM]
end
section
variable {P:Program} {n nb:Nat} {Q:Exit->St->Prop} {K:List Fr} {c x y:Code} {s:St}
theorem TK.condP [Fc] {o:Operand} {p:Prop} [Decidable p] (hc:evS s o=lit (.bool (decide p))) (hx:p->TK P n nb Q x K s) (hy:¬p->TK P n nb Q y K s):TK P n nb Q (.cond o x y) K s:=
 TK.cond hc (fun h=>hx (of_decide_eq_true h)) (fun h=>hy (of_decide_eq_false h))
end
def Post (Y:Tab) (F:FnI) (lo:Nat) (val:DV) (e:Exit) (s:St):Prop:=(e=.normal\/e=.ret)/\∃ v ms,closeX Y F lo [] s=some (v,ms)/\v=val/\ms=[]
theorem leaf {Y:Tab} {F:FnI} {lo:Nat} {val:DV} {s:St} {val0:DV} (h:closeX Y F lo [] s=some (val0,[])) (hv:val0=val):Post Y F lo val .ret s:=⟨.inr Z,val0,[],h,hv,rfl⟩
theorem CallR.ok {P:Program} {f:FuncId} {ds:List DV} {look:Nat->Option MO} {val:DV} {ms:List (Nat×MO)} (h:CallR P f ds look fun v m=>v=val/\m=ms):q6 P f ds look val ms:=
 ⟨h.refs,fun G w vs M hv=>(h.call G w vs M hv).mono fun r w' ⟨v,m,G',⟨e1,e2⟩,S⟩=>⟨G',by rw[<-e1,<-e2];exact S⟩⟩
theorem callOk_of {P:Program} {Y:Tab} [qU P Y] {F:FnI} {f:FuncId} {fn:Func} {c:Code} (hf:P.funcs[f]? =some fn) (hb:fn.body=some c) (hn:fn.ntmps=F.n) (hr:fn.results=F.res) (he:∀ args w,(callFunc f args).run P w=.ok (.enter f args) w)
  {ds:List DV} {val:DV} (hl:ds.length<=F.n) (hrf:DV.qT ds=[])
  (h:TK P F.n 1 (Post Y F 1 val) c [] ⟨zipT 0 ds,[]⟩):q6 P f ds (qx []) val []:=by
 refine CallR.ok (CallR.of (Y:=Y) (F:=F) (lo:=1) hf hb hn hr he hl (fun h hh=>by rw[hrf] at hh;cases hh) (fun h o e=>by cases e) (T.mono h ?_))
 rintro e s' ⟨h1,v,ms,h2,h3,h4⟩
 exact⟨h1,v,ms,h2,h3,h4⟩
theorem wk_frz {nb:Nat} {s:St} {t h:Nat} {d:DV} {o:MO} {p:PV} (ht:jC s.tm t=d) (hd:d≠.dead) (hf:ky (qx s.ms) h=some o) (hp:pvOf (qx [(h,o)]) d=some p):Wk nb s ⟨(t,.pv p)::s.tm,(h,o)::s.ms⟩:=by
 intro G a w I
 obtain⟨G1,S1⟩:=frz_stepped I.mem hf
 obtain⟨I1,Sn1⟩:=I.eff (K:=nb) S1 none (by simp)
 have I2:Inv G1 (St.vw ⟨s.tm,(h,o)::s.ms⟩) a w:=I1
 refine⟨G1,?_,Sn1⟩
 have hts:t<a.tmps.size:=by
  rcases Nat.lt_or_ge t a.tmps.size with h|h
  ·exact h
  exact absurd (ht.symm.trans (I.size t h)) hd
 have hv:qz G1 (G1.rd w) d (a.tmps.getD t undef):=by
  have:=I2.ts t
  have e:(St.vw ⟨s.tm,(h,o)::s.ms⟩).get t=d:=ht
  rw[e] at this;exact this
 have hpv:qN (G1.rd w) p (a.tmps.getD t undef):=by
  refine jm (look:=qx [(h,o)]) (fun k m hk=>?_) hp hv
  rw[qM] at hk
  split at hk
  ·rename_i e;subst e;cases hk;exact S1.hms _ _ (by simp)
  cases hk
 refine⟨fun u=>?_,fun u hu=>?_,I2.ms,I2.fresh,I2.own,fun u k hk=>?_,I2.refsM,I2.r0,I2.r0m,I2.baseLe,I2.laid⟩
 ·show qz _ _ (jC ((t,.pv p)::s.tm) u) _
  rw[jo]
  split
  ·rename_i e;subst e;simp only[qz];exact hpv
  exact I2.ts u
 ·show jC ((t,.pv p)::s.tm) u=.dead
  rw[jo,if_neg (by omega)]
  exact I2.size u hu
 have hk':k∈(jC ((t,.pv p)::s.tm) u).refs:=hk
 rw[jo] at hk'
 split at hk'
 ·simp[DV.refs] at hk'
 exact I2.refsT u k hk'
section
variable {P:Program} {Y:Tab} {n nb:Nat} {Q:Exit->St->Prop} {K:List Fr} {c:Code} {s:St}
theorem TK.frz [Fc] {t h v sz:Nat} {T0:TypeId} {es:List (List PV)} (ht:jC s.tm t=.aref h v) (hm:qx s.ms h=some (.arr v sz T0 es)) (k:TK P n nb Q c K ⟨(t,.pv (.slice es))::s.tm,(h,.farr v es)::s.ms⟩):TK P n nb Q c K s:=
 T.weak (wk_frz ht (by simp) (by unfold ky;rw[hm]) (by simp[pvOf,qM])) k
theorem TK.frzB [Fc] {t h:Nat} {T0:TypeId} {ds:List DV} {cs:List PV} (ht:jC s.tm t=.bref h 0) (hm:qx s.ms h=some (.box T0 ds)) (hp:pvOfL (qx s.ms) ds=some cs) (k:TK P n nb Q c K ⟨(t,.pv (.box cs))::s.tm,(h,.fbox cs)::s.ms⟩):TK P n nb Q c K s:=
 T.weak (wk_frz ht (by simp) (by unfold ky;rw[hm];simp[hp]) (by simp[pvOf,qM])) k
end
section
variable {P:Program} {Y:Tab} {nb:Nat} {s:St} {ops:Array Oper} {o:Oper} {dst:Option Tmp} {ty u:TypeId} {pos:String} {af:Array Edge} {gd:Option (Nat×Bool)} {t:TypeId} {x y:Operand}
theorem Frz.j8 (l:List (Nat×MO)):Frz l .nils [] (.pv (.slice [])) []:=by
 intro G w G1 w1 r M S
 have hv:=S.hval
 simp only[qz] at hv
 refine⟨G1,{ S with hval:=?_,refs:=by simp[DV.refs] }⟩
 simp only[qz,qN]
 exact⟨none,0,by rw[hv];rfl,zz _,.inl trivial⟩
theorem B.j8 {α:Type} {enc:α->List PV} (hx:ev1 s x=.nils):Body P Y nb s ⟨dst,.assign x,ty,pos,af,gd⟩ (.pv (.slice (List.map enc []))) [] []:=by
 refine B.of0 (val0:=.nils) (m0:=[]) (lo:=0) (nm:=0) (ke P) ?_ ?_ (Frz.j8 _) rfl
 ·intro z hz
  have:z=x:=by simpa [Op.operands] using hz
  rw[this,hx];rfl
 show mvE (evU (tmpsOf [x]) s x)=_
 rw[qX (by simp),hx];rfl
theorem B.quoN {a b:Int} (hx:ev1 s x=lit (.int .i64 a)) (hy:ev1 s y=lit (.int .i64 b)) (ha:0<=a) (hb:0<b) (h:R64 (a / b)):Body P Y nb s ⟨dst,.binOp .quo t x y u,ty,pos,af,gd⟩ (lit (.int .i64 (a / b))) [] []:=by
 have e:a.tdiv b=a / b:=Int.tdiv_eq_ediv_of_nonneg ha
 have:=B.quo (P:=P) (Y:=Y) (nb:=nb) (dst:=dst) (ty:=ty) (u:=u) (pos:=pos) (af:=af) (gd:=gd) (t:=t) hx hy ⟨by omega,by rw[e];exact h⟩
 rw[e] at this;exact this
theorem B.rangeS {a:ByteArray} {d h:Nat} (hx:ev1 s x=lit (.string a)) (und:Y.underlying t=some .string) (hh:nameOf nb s.ms (some d)=h) (hm:jJ s.ms h=false) :
  Body P Y nb s ⟨some d,.range t x,ty,pos,af,gd⟩ (.bref h 0) [(h,.siter a 0)] []:=by
 refine B.of0 (val0:=.bref h 0) (m0:=[(h,.siter a 0)]) (lo:=0) (nm:=h) (ke P) ?_ ?_ (Frz.refl _ _ _) ?_
 ·intro z hz
  have:z=x:=by simpa [Op.operands] using hz
  rw[this,hx];rfl
 ·have e1:evU (tmpsOf [x]) s x=_:=(qX (by simp)).trans hx
  have hv:effV Y h (some d) (.range t x) (evU (tmpsOf [x]) s) (qx [])=rangeV Y h t (evU (tmpsOf [x]) s x) (qx []):=rfl
  show (match effV Y h (some d) (.range t x) (evU (tmpsOf [x]) s) (qx []) with|some ⟨true,v,m⟩=>some (v,m)|_=>none)=_
  rw[hv,e1]
  unfold rangeV lit
  rw[und];rfl
 simp[hm]
theorem led1 {h:Nat} {mo:MO} {ms:List (Nat×MO)} (hm:qx ms h=some mo) (hr:mo.refs=[]):sel ms (ZU ms 10000 [h] [])=[(h,mo)]:=by
 have:ZU ms 10000 [h] []=[h]:=by
  show (bif ([]:List Nat).any (Nat.beq h) then _ else _)=_
  simp only[List.any_nil,cond_false,hm,hr,zW];rfl
 rw[this];simp only[sel,hm]
theorem B.next {a:ByteArray} {h p:Nat} {val:DV} {m:List (Nat×MO)} (hx:ev1 s x=.bref h 0) (hm:qx s.ms h=some (.siter a p)) (hn:nextV (.bref h 0) true (qx [(h,.siter a p)])=some ⟨true,val,m⟩) (hmm:m.map (·.1)=[h]\/m=[]) :
  Body P Y nb s ⟨dst,.next x true,ty,pos,af,gd⟩ val m [h]:=by
 have e1:evU (tmpsOf [x]) s x=.bref h 0:=(qX (by simp)).trans hx
 have hrs:([x].flatMap fun x'=>(evU (tmpsOf [x]) s x').refs)=[h]:=by simp[e1,DV.refs]
 refine .inl ⟨O0,[(h,.siter a p)],_,_,0,0,ke P,?_,?_,?_,?_,Frz.refl _ _ _,?_⟩
 ·show ledM s.ms ([x].flatMap fun x'=>(evU (tmpsOf [x]) s x').refs) 2=_
  rw[hrs];exact led1 hm rfl
 ·show rdM s.ms ([x].flatMap fun x'=>(evU (tmpsOf [x]) s x').refs) [(h,.siter a p)] 2=_
  rw[hrs];rfl
 ·show (jk [(h,.siter a p)]&&([x].flatMap fun x'=>(evU (tmpsOf [x]) s x').refs).all (jJ [(h,.siter a p)]))=true
  rw[hrs]
  simp[jk,MO.refs,jJ,qM]
 ·have hv:effV Y 0 dst (.next x true) (evU (tmpsOf [x]) s) (qx [(h,.siter a p)])=nextV (evU (tmpsOf [x]) s x) true (qx [(h,.siter a p)]):=by cases dst<;>rfl
  show (match effV Y 0 dst (.next x true) (evU (tmpsOf [x]) s) (qx [(h,.siter a p)]) with|some ⟨true,v,m⟩=>some (v,m)|_=>none)=_
  rw[hv,e1,hn]
 rcases hmm with e|rfl
 ·rw[zp]
  intro q hq
  have:q.1∈m.map (·.1):=zE.2 ⟨q,hq,rfl⟩
  rw[e] at this
  simp only[zg] at this
  simp[this,jJ,qM]
 rfl
theorem RG.next [qU P Y] {dr:Bool} {os:List Oper} {acc:List Ef} {Q:St->Prop} {a:ByteArray} {h p:Nat} (hg:gcond ops s gd=some true) (hx:ev1 s x=.bref h 0) (hm:qx s.ms h=some (.siter a p))
  (hT:p<a.size->RG P Y nb ops dr os (stp s ⟨dst,.tup [lit (.bool true),lit (.int .i64 (p:Int)),lit (.int .i32 (Utf8.decode a p).1)],[(h,.siter a (p+(Utf8.decode a p).2))],[h]⟩) (acc++[⟨dst,.tup [lit (.bool true),lit (.int .i64 (p:Int)),lit (.int .i32 (Utf8.decode a p).1)],[(h,.siter a (p+(Utf8.decode a p).2))],[h]⟩]) Q)
  (hF:¬p<a.size->RG P Y nb ops dr os (stp s ⟨dst,.tup [lit (.bool false)],[],[h]⟩) (acc++[⟨dst,.tup [lit (.bool false)],[],[h]⟩]) Q) :
  RG P Y nb ops dr (⟨dst,.next x true,ty,pos,af,gd⟩::os) s acc Q:=by
 by_cases hlt:p<a.size
 ·refine RG.cons (EfR.on hg (B.next hx hm ?_ (.inl Z))) (hT hlt)
  unfold nextV
  have:Nat.blt p a.size=true:=by rw[Nat.blt_eq];exact hlt
  simp[qM,this]
 refine RG.cons (EfR.on hg (B.next hx hm ?_ (.inr Z))) (hF hlt)
 unfold nextV
 have:Nat.blt p a.size=false:=Bool.eq_false_iff.mpr fun h=>hlt (by rwa [Nat.blt_eq] at h)
 simp[qM,this]
end
def bsO (l:List UInt8):ByteArray:=⟨⟨l⟩⟩
abbrev KV:=List (List UInt8×Value)
def ZL:Nat->KV->List MapEntry
 | _,[]=>[]
 | i,(k,v)::l=>{ key:=.string (bsO k),val:=v,born:=i }::ZL (i+1) l
def jT (kv:KV):Obj:=.map (ZL 0 kv).toArray kv.length
def Zq (k:List UInt8) (v:Value):KV->KV
 | []=>[(k,v)]
 | (a,x)::l=>if k=a then (a,v)::l else (a,x)::Zq k v l
def findKV (k:List UInt8):Nat->KV->Option (Nat×Value)
 | _,[]=>none
 | j,(a,x)::l=>if k=a then some (j,x) else findKV k (j+1) l
def getKV (k:List UInt8):KV->Option Value
 | []=>none
 | (a,x)::l=>if k=a then some x else getKV k l
theorem bsO_inj {a b:List UInt8}:bsO a=bsO b↔a=b:=by
 constructor
 ·intro h;have:=congrArg (fun x:ByteArray=>x.data.toList) h;simpa [bsO] using this
 rintro rfl;rfl
theorem bsO_beq (a b:List UInt8):(bsO a==bsO b)=decide (a=b):=by
 rw[zM,MapKept.bytes_beq,bsO_inj,zf]
theorem mkEs_length:∀ (i:Nat) (kv:KV),(ZL i kv).length=kv.length
 | _,[]=>rfl
 | i,(k,v)::l=>by simp[ZL,mkEs_length (i+1) l]
theorem mkEs_get:∀ (kv:KV) (i j:Nat),(ZL i kv)[j]? =(kv[j]?).map fun p=>{ key:=.string (bsO p.1),val:=p.2,born:=i+j }
 | [],i,j=>by simp[ZL]
 | (k,v)::l,i,0=>by simp[ZL]
 | (k,v)::l,i,j+1=>by simp[ZL,mkEs_get l (i+1) j];congr 1;funext p;simp;omega
theorem findNow_mk (k:List UInt8):∀ (kv:KV) (i j:Nat),Instr.findNow .string (.string (bsO k)) (ZL i kv) j=some (findKV k j kv)
 | [],_,_=>rfl
 | (a,x)::l,i,j=>by
  simp only[ZL,Instr.findNow,Instr.sameNow,bsO_beq,findKV]
  by_cases h:k=a
  ·simp[h]
  simp[h,findNow_mk k l (i+1) (j+1)]
theorem findKV_get (k:List UInt8):∀ (kv:KV) (j:Nat),(findKV k j kv).map (·.2)=getKV k kv
 | [],_=>rfl
 | (a,x)::l,j=>by
  simp only[findKV,getKV]
  split
  ·rfl
  exact findKV_get k l (j+1)
theorem set_none (k:List UInt8) (v:Value):∀ (kv:KV) (i j:Nat),findKV k j kv=none->ZL i kv++[{ key:=.string (bsO k),val:=v,born:=i+kv.length }]=ZL i (Zq k v kv)/\(Zq k v kv).length=kv.length+1
 | [],i,j,_=>by simp[ZL,Zq]
 | (a,x)::l,i,j,h=>by
  simp only[findKV] at h
  split at h
  ·cases h
  rename_i hne
  obtain⟨h1,h2⟩:=set_none k v l (i+1) (j+1) h
  simp only[Zq,hne,qr,ZL,zQ,zb,h2,<-h1]
  refine⟨?_,trivial⟩
  rw[show i+(l.length+1)=i+1+l.length by omega]
theorem set_some (k:List UInt8) (v:Value):∀ (kv:KV) (i j:Nat) (m:Nat) (x:Value),findKV k j kv=some (m,x)->j<=m/\m-j<kv.length/\((ZL i kv)[m-j]?).map (·.key)=some (.string (bsO k))/\
   (ZL i kv).modify (m-j) (fun e=>{ e with key:=.string (bsO k),val:=v })=ZL i (Zq k v kv)/\(Zq k v kv).length=kv.length
 | [],i,j,m,x,h=>by cases h
 | (a,y)::l,i,j,m,x,h=>by
  simp only[findKV] at h
  split at h
  ·rename_i hq
   subst hq
   cases h
   simp[ZL,Zq]
  rename_i hne
  obtain⟨h1,h2,h3,h4,h5⟩:=set_some k v l (i+1) (j+1) m x h
  have e:m-j=m-(j+1)+1:=by omega
  refine⟨by omega,by simp only[zb];omega,?_,?_,?_⟩
  ·rw[e];simpa [ZL] using h3
  ·rw[e];simp only[ZL,Zq,hne,qr,List.modify_succ_cons,h4]
  simp[Zq,hne,h5]
section
variable {P:Program} {Y:Tab} [qU P Y] {nb:Nat} {s:St} {o:Oper} {val:DV} {m:List (Nat×MO)} {rd:List Nat}
theorem hasM_none {ms:List (Nat×MO)} {h:Nat} (e:jJ ms h=false):qx ms h=none:=by
 unfold jJ at e
 cases hq:qx ms h with
 | none=>rfl
 | some o=>rw[hq] at e;cases e
theorem ev1_agree {σ:St} {xs:List Operand} (h:∀ t∈tmpsOf xs,jC σ.tm t=jC s.tm t) {x:Operand} (hx:x∈xs):ev1 σ x=ev1 s x:=by
 unfold ev1
 cases x with
 | tmp t=>simp only[evS];rw[h t (tmpsOf_mem hx)]
 | _=>rfl
theorem kM {G:Gh} {a:Act} {w:World} (I:Inv G s.vw a w) (x:Operand):qz G (G.rd w) (ev1 s x) (a.eval x):=RelDV_evD (jB I x)
theorem Zp.of (H:∀ (σ:St) (G:Gh) (a:Act) (w:World),(∀ x∈o.op.operands.toList,qz G (G.rd w) (ev1 s x) (a.eval x))->(∀ h,(h∈rd\/h∈m.map (·.1))->qx σ.ms h=qx s.ms h)->Inv G σ.vw a w->
  ∃ r w' G',((execOp a.eval o).run P w=.ok (.value r) w'\/(execOp a.eval o).run P w=.ok .skip w'/\r=undef)/\Stepped G w (qx σ.ms) val m G' w' r):Zp P s o val m rd:=by
 intro σ G a w next Q h1 h2 I hn
 obtain⟨r,w',G',hrun,S⟩:=H σ G a w (fun x hx=>by rw[<-ev1_agree h1 hx];exact kM I x) h2 I
 have:=hn r w' G' S
 have hnd:∀ c,o.op≠.defer c:=by
  rcases hrun with hrun|⟨hrun,_⟩
  ·exact notDefer hrun (by simp)
  exact notDefer hrun (by simp)
 refine wpR_of ?_ hnd
 unfold Oper.wp
 rcases hrun with hrun|⟨hrun,rfl⟩
 ·rw[hrun];exact this
 rw[hrun];exact this
variable {dst:Option Tmp} {ty:TypeId} {pos:String} {af:Array Edge} {gd:Option (Nat×Bool)} {t:TypeId} {x y z:Operand}
theorem Gh.km (G:Gh) (h:Nat):G.turn h (G.ρ h)=G:=by
 unfold Gh.turn
 congr
 funext k
 split
 ·rename_i e;rw[e]
 rfl
theorem B.newMap {d h:Nat} (hh:nameOf nb s.ms (some d)=h) (hm:jJ s.ms h=false):Body P Y nb s ⟨some d,.makeMap t none,ty,pos,af,gd⟩ (.mref h) [(h,.obj (jT []))] []:=by
 refine .inr (Zp.of fun σ G a w _ hl I=>?_)
 have hl':qx σ.ms h=none:=(hl h (.inr (by simp))).trans (hasM_none hm)
 refine⟨.map (some w.heap.size),w.alloc (.map #[] 0),_,.inl (by simp[execOp,Instr.makeMap]),jH (B:={ map:=w.heap.size }) I.fresh hl' ?_ ?_ (by simp[DV.refs]) (by simp[MO.refs])⟩
 ·simp[qz,Gh.new]
 simp only[jc]
 exact⟨by simp[Gh.new],by simp[Gh.new],by simp only[Gh.new,qq];exact heap_alloc_new w _⟩
theorem keyStays (k:List UInt8) (w:World):(Instr.keyThatStays (.string (bsO k)) (.string (bsO k))).run P w=.ok (.string (bsO k)) w:=
 MapKept.run_keyThatStays (d:=.string) (by simp[MapKept.IsKey])
theorem run_getMapO {w:World} {r:Nat} {kv:KV} (e:w.heap[r]? =some (jT kv)):(getObj r).run P w=.ok (jT kv) w:=MapKept.run_getObj_map e
theorem run_setMapO {w:World} {r:Nat} {kv:KV} (e:w.heap[r]? =some (jT kv)) (o:Obj):(setObj r o).run P w=.ok () { w with heap:=w.heap.setIfInBounds r o }:=MapKept.run_setObj_map o e
theorem B.setMap {h:Nat} {kv:KV} {k:List UInt8} {v:Value} {kt et:TypeId} (hx:ev1 s x=.mref h) (hy:ev1 s y=lit (.string (bsO k))) (hz:ev1 s z=lit v) (hl:qx s.ms h=some (.obj (jT kv)))
  (und:Y.underlying t=some (.map kt et)) (uk:Y.underlying kt=some .string) :
  Body P Y nb s ⟨none,.mapUpdate t x y z,ty,pos,af,gd⟩ .dead [(h,.obj (jT (Zq k v kv)))] [h]:=by
 refine .inr (Zp.of fun σ G a w hv hl2 I=>?_)
 have hX:=hv x (by simp[Op.operands])
 have hY:=hv y (by simp[Op.operands])
 have hZ:=hv z (by simp[Op.operands])
 rw[hx] at hX;rw[hy] at hY;rw[hz] at hZ
 simp only[qz] at hX
 have hY':=(qC hY).1
 have hZ':=(qC hZ).1
 have hlk:qx σ.ms h=some (.obj (jT kv)):=by rw[hl2 h (.inl (by simp))];exact hl
 obtain⟨k1,e1,e2⟩:=I.ms _ _ hlk
 have hgo:(getObj (G.ρ h).map).run P w=.ok (jT kv) w:=run_getMapO e2
 have hck:(Instr.checkKey false 10000 kt (.string (bsO k))).run P w=.ok () w:=kR uk 9999 false _
 have hfk:(Instr.findKey kt (.string (bsO k)) (ZL 0 kv)).run P w=.ok (findKV k 0 kv) w:=by
  simp only[Instr.findKey,qu,qR uk,qt,findNow_mk,qw]
 have hset:∀ o:Obj,(setObj (G.ρ h).map o).run P w=.ok () { w with heap:=w.heap.setIfInBounds (G.ρ h).map o }:=run_setMapO e2
 have hrun:(Instr.mapUpdate t (.map (some (G.ρ h).map)) (.string (bsO k)) v).run P w=.ok () { w with heap:=w.heap.setIfInBounds (G.ρ h).map (jT (Zq k v kv)) }:=by
  unfold jT at hgo ⊢
  simp only[Instr.mapUpdate,qu,qR und,qt,hgo,hck,hfk]
  cases hf:findKV k 0 kv with
  | none=>
   obtain⟨h1,h2⟩:=set_none k v kv 0 0 hf
   simp only[hset]
   rw[<-h1,h2]
   simp
  | some p=>
   obtain⟨i,x0⟩:=p
   obtain⟨_,_,h3,h4,h5⟩:=set_some k v kv 0 0 i x0 hf
   simp only[Nat.sub_zero] at h3 h4
   have hkey:((((ZL 0 kv).toArray[i]?).map (·.key)).getD (.string (bsO k)))=.string (bsO k):=by
    rw[List.getElem?_toArray,h3];rfl
   simp only[qu,hkey,keyStays,qt,hset]
   rw[<-h4,h5]
   simp
 have hlt:(G.ρ h).map<w.heap.size:=(zT.1 e2).1
 have hblk:∀ b,G.γ b≠some h->(w.heap.setIfInBounds (G.ρ h).map (jT (Zq k v kv)))[b]? =w.heap[b]? :=by
  intro b hb
  rw[Array.getElem?_setIfInBounds,if_neg (fun e=>hb (by rw[<-e];exact e1))]
 refine⟨undef,{ w with heap:=w.heap.setIfInBounds (G.ρ h).map (jT (Zq k v kv)) },G,.inr ⟨?_,rfl⟩,?_⟩
 ·simp only[execOp,hX.2,hY',hZ',qu,hrun,qt,qw]
 have C:=I.ctxS
 have S:=jr (m:=.obj (jT (Zq k v kv))) (val:=.dead) (r:=undef) C (B:=G.ρ h) hlk (by rw[Gh.km];exact .inl Z)
  (w':={ w with heap:=w.heap.setIfInBounds (G.ρ h).map (jT (Zq k v kv)) }) Z Z Z (by simp) hblk (by simp only[qz]) ?_ (by simp[DV.refs]) (by simp[MO.refs])
 ·rw[Gh.km] at S;exact S
 rw[Gh.km]
 simp only[jc]
 refine⟨k1,e1,?_⟩
 show (w.heap.setIfInBounds (G.ρ h).map _)[(G.ρ h).map]? =_
 rw[Array.getElem?_setIfInBounds];simp[hlt]
theorem lits2 {a b:Value} (ha:isLit a=true) (hb:isLit b=true):∀ v∈[a,b],isLit v=true:=by
 intro v hv
 simp only[zF,qn,or_false] at hv
 rcases hv with rfl|rfl
 ·exact ha
 exact hb
theorem getKV_lit {k:List UInt8}:∀ {kv:KV} {v:Value},(∀ p∈kv,isLit p.2=true)->getKV k kv=some v->isLit v=true
 | [],v,_,h=>by cases h
 | (a0,x0)::l,v,hl,h=>by
  simp only[getKV] at h
  split at h
  ·cases h;exact hl (a0,x0) (by simp)
  exact getKV_lit (fun p hp=>hl p (by simp[hp])) h
theorem B.getMap {h:Nat} {kv:KV} {k:List UInt8} {zv:Value} {kt et:TypeId} {i:TypeInfo} (hx:ev1 s x=.mref h) (hy:ev1 s y=lit (.string (bsO k))) (hl:qx s.ms h=some (.obj (jT kv)))
  (und:Y.underlying t=some (.map kt et)) (uk:Y.underlying kt=some .string) (hi:Y.info? et=some i) (hz:i.zero=some zv) (hzl:isLit zv=true) (hkl:∀ p∈kv,isLit p.2=true) :
  Body P Y nb s ⟨dst,.lookup t x y true,ty,pos,af,gd⟩ (match getKV k kv with|some v=>.tup [lit v,lit (.bool true)]|none=>.tup [lit zv,lit (.bool false)]) [] [h]:=by
 refine .inr (Zp.of fun σ G a w hv hl2 I=>?_)
 have hX:=hv x (by simp[Op.operands])
 have hY:=hv y (by simp[Op.operands])
 rw[hx] at hX;rw[hy] at hY
 simp only[qz] at hX
 have hY':=(qC hY).1
 have hlk:qx σ.ms h=some (.obj (jT kv)):=by rw[hl2 h (.inl (by simp))];exact hl
 obtain⟨k1,e1,e2⟩:=I.ms _ _ hlk
 have hgo:(getObj (G.ρ h).map).run P w=.ok (jT kv) w:=run_getMapO e2
 have hfk:(Instr.findKey kt (.string (bsO k)) (ZL 0 kv)).run P w=.ok (findKV k 0 kv) w:=by
  simp only[Instr.findKey,qu,qR uk,qt,findNow_mk,qw]
 have hck:∀ b,(Instr.checkKey b 10000 kt (.string (bsO k))).run P w=.ok () w:=fun b=>kR uk 9999 b _
 have hzr:(zeroValue et).run P w=.ok zv w:=by
  simp[zeroValue,qu,typeInfo,qU.inf P hi,hz]
 have C:=I.ctxS
 have hmem:∀ v,getKV k kv=some v->isLit v=true:=fun v h=>getKV_lit hkl h
 have hrun:(Instr.lookup t (.map (some (G.ρ h).map)) (.string (bsO k)) true).run P w=.ok (match getKV k kv with|some v=>.tuple #[v,.bool true]|none=>.tuple #[zv,.bool false]) w:=by
  unfold jT at hgo
  have hfg:=findKV_get k kv 0
  simp only[Instr.lookup,qu,qR und,qt,hgo,hck,hfk,qw]
  cases hf:findKV k 0 kv with
  | none=>
   rw[hf] at hfg
   simp only[Option.map_none] at hfg
   rw[<-hfg]
   simp only[qu,hzr,qt,qw,qq]
  | some p=>
   rw[hf] at hfg
   simp only[qg] at hfg
   rw[<-hfg]
   simp only[qu,qw,qt,qq]
 refine⟨(match getKV k kv with|some v=>.tuple #[v,.bool true]|none=>.tuple #[zv,.bool false]),w,G,.inl ?_,qL C ?_ ?_⟩
 ·simp only[execOp,hX.2,hY',qu,hrun,qt,qw]
 ·cases hg:getKV k kv with
  | none=>
   simp only[qz]
   exact⟨_,rfl,j7 (vs:=[zv,.bool false]) (lits2 hzl Z)⟩
  | some v=>
   simp only[qz]
   exact⟨_,rfl,j7 (vs:=[v,.bool true]) (lits2 (hmem v hg) Z)⟩
 cases getKV k kv<;>simp[DV.refs,DV.qT,lit]
theorem B.rangeM {hm:Nat} {kv:KV} {d h:Nat} {kt et:TypeId} (hx:ev1 s x=.mref hm) (hl:qx s.ms hm=some (.obj (jT kv))) (und:Y.underlying t=some (.map kt et)) (hh:nameOf nb s.ms (some d)=h) (hf:jJ s.ms h=false) :
  Body P Y nb s ⟨some d,.range t x,ty,pos,af,gd⟩ (.bref h 0) [(h,.miter hm kv.length #[])] [hm]:=by
 refine .inr (Zp.of fun σ G a w hv hl2 I=>?_)
 have hX:=hv x (by simp[Op.operands])
 rw[hx] at hX
 simp only[qz] at hX
 have hlk:qx σ.ms hm=some (.obj (jT kv)):=by rw[hl2 hm (.inl (by simp))];exact hl
 have hln:qx σ.ms h=none:=(hl2 h (.inr (by simp))).trans (hasM_none hf)
 have hne:hm≠h:=fun e=>by rw[e,hln] at hlk;cases hlk
 obtain⟨k1,e1,e2⟩:=I.ms _ _ hlk
 have hgo:(getObj (G.ρ hm).map).run P w=.ok (jT kv) w:=run_getMapO e2
 have hrun:(Instr.range t (.map (some (G.ρ hm).map))).run P w=.ok (.pointer (some ⟨w.heap.size,0,none⟩)) (w.alloc (.mapIter (some (G.ρ hm).map) kv.length #[] kv.length)):=by
  unfold jT at hgo
  simp only[Instr.range,qu,qR und,qt,hgo,qw,run_newObj];rfl
 refine⟨.pointer (some ⟨w.heap.size,0,none⟩),w.alloc (.mapIter (some (G.ρ hm).map) kv.length #[] kv.length),_,.inl ?_,jH (B:={ addr:=some ⟨w.heap.size,0,none⟩ }) I.fresh hln ?_ ?_ (by simp[DV.refs]) (by intro k hk;simp[MO.refs] at hk;subst hk;exact .inr ⟨_,hlk⟩)⟩
 ·simp only[execOp,hX.2,qu,hrun,qt,qw]
 ·simp[qz,Gh.new]
 simp only[jc]
 have hρ:(G.new h { addr:=some ⟨w.heap.size,0,none⟩ } w.heap.size).ρ hm=G.ρ hm:=by simp[Gh.new,hne]
 refine⟨by simp[Gh.new],by rw[hρ];exact k1,w.heap.size,by simp[Gh.new],by simp[Gh.new],?_⟩
 rw[hρ]
 exact heap_alloc_new w _
theorem B.entryM {hm h i:Nat} {kv:KV} {seen:Array Nat} {k:List UInt8} {v:Value} (hx:ev1 s x=.bref h 0) (hl:qx s.ms h=some (.miter hm kv.length (seen.push i))) (hm':qx s.ms hm=some (.obj (jT kv))) (hi:kv[i]? =some (k,v)) (hvl:isLit v=true) :
  Body P Y nb s ⟨dst,.entry x,ty,pos,af,gd⟩ (.tup [lit (.string (bsO k)),lit v]) [] [h,hm]:=by
 refine .inr (Zp.of fun σ G a w hv hl2 I=>?_)
 have hX:=hv x (by simp[Op.operands])
 rw[hx] at hX
 simp only[qz] at hX
 obtain⟨_,b,e0,hX⟩:=hX
 have hlk:qx σ.ms h=some (.miter hm kv.length (seen.push i)):=by rw[hl2 h (.inl (by simp))];exact hl
 have hlm:qx σ.ms hm=some (.obj (jT kv)):=by rw[hl2 hm (.inl (by simp))];exact hm'
 obtain⟨_,_,b',f1,f2,f3⟩:=I.ms _ _ hlk
 obtain⟨k1,e1,e2⟩:=I.ms _ _ hlm
 rw[e0] at f1
 simp only[zh,Addr.mk.injEq,and_true] at f1
 subst f1
 have hgo:(getObj (G.ρ hm).map).run P w=.ok (jT kv) w:=run_getMapO e2
 have hgi:(getObj b).run P w=.ok (.mapIter (some (G.ρ hm).map) kv.length (seen.push i) kv.length) w:=by simp[getObj,Sem.run,f3]
 have hfind:(ZL 0 kv).toArray.find? (·.born==i)=some { key:=.string (bsO k),val:=v,born:=i }:=by
  rw[List.find?_toArray]
  have key:∀ (kv:KV) (j i:Nat),kv[i]? =some (k,v)->(ZL j kv).find? (·.born==j+i)=some { key:=.string (bsO k),val:=v,born:=j+i }:=by
   intro kv
   induction kv with
   | nil=>intro j i h;simp at h
   | cons p l ih=>
    intro j i h
    obtain⟨a0,x0⟩:=p
    cases i with
    | zero=>simp only[List.getElem?_cons_zero,zh,zu] at h;obtain⟨rfl,rfl⟩:=h;simp[ZL]
    | succ i=>
     simp only[List.getElem?_cons_succ] at h
     have:=ih (j+1) i h
     rw[show j+1+i=j+(i+1) by omega] at this
     simp only[ZL,List.find?_cons]
     have hn:(j==j+(i+1))=false:=by simp
     simp only[hn];exact this
  have:=key kv 0 i hi
  simpa using this
 have hrun:(Instr.entry (.pointer (some ⟨b,0,none⟩))).run P w=.ok (.tuple #[.string (bsO k),v]) w:=by
  unfold jT at hgo
  simp only[Instr.entry,qu,hgi,qt,Array.back?_push,hgo,bne_self_eq_false,qp,qr,hfind,qw]
 refine⟨.tuple #[.string (bsO k),v],w,G,.inl ?_,qL I.ctxS ?_ (by simp[DV.refs,DV.qT,lit])⟩
 ·simp only[execOp,hX,qu,hrun,qt,qw]
 simp only[qz]
 exact⟨_,rfl,j7 (vs:=[.string (bsO k),v]) (lits2 Z hvl)⟩
end
theorem mem_mkEs {e:MapEntry} {kv:KV} (h:e∈ZL 0 kv):∃ k v,kv[e.born]? =some (k,v)/\e.key=.string (bsO k)/\e.val=v:=by
 obtain⟨j,hj,he⟩:=List.getElem_of_mem h
 have h1:(ZL 0 kv)[j]? =some e:=by rw[zm hj,he]
 rw[mkEs_get] at h1
 cases hk:kv[j]? with
 | none=>rw[hk] at h1;cases h1
 | some p=>
  rw[hk] at h1
  simp only[qg,zh,Nat.zero_add] at h1
  subst h1
  exact⟨p.1,p.2,hk,rfl,rfl⟩
theorem born_lt {e:MapEntry} {kv:KV} (h:e∈ZL 0 kv):e.born<kv.length:=by
 obtain⟨k,v,h1,_⟩:=mem_mkEs h
 exact (List.getElem?_eq_some_iff.1 h1).1
theorem run_pick {P:Program} {w:World} {n:Nat} (hn:0<n):∃ j d,(choose (.mapNext n)).run P w=.ok j { w with drawn:=d }/\j<n:=by
 rw[run_choose]
 by_cases hf:(Question.mapNext n).forced=true
 ·exact⟨0,w.drawn,by rw[if_pos hf],hn⟩
 exact⟨w.tape w.drawn (.mapNext n)%n,w.drawn+1,by rw[if_neg hf];rfl,Nat.mod_lt _ hn⟩
theorem run_nextM {P:Program} {w:World} {b r:Nat} {kv:KV} {seen:Array Nat} {ty:TypeId} (hb:w.heap[b]? =some (.mapIter (some r) kv.length seen kv.length)) (hr:w.heap[r]? =some (jT kv)) :
  ∃ d,((∀ i,i<kv.length->i∈seen)/\(Instr.next (.pointer (some ⟨b,0,none⟩)) false ty).run P w=.ok (.tuple #[.bool false]) { w with drawn:=d })\/
   ∃ i k v,kv[i]? =some (k,v)/\i∉seen/\(Instr.next (.pointer (some ⟨b,0,none⟩)) false ty).run P w=.ok (.tuple #[.bool true,.string (bsO k),v]) { w with heap:=w.heap.setIfInBounds b (.mapIter (some r) kv.length (seen.push i) kv.length),drawn:=d }:=by
 have hgb:(getObj b).run P w=.ok (.mapIter (some r) kv.length seen kv.length) w:=by simp only[getObj,Sem.run,hb]
 have hgr:(getObj r).run P w=.ok (.map (ZL 0 kv).toArray kv.length) w:=MapKept.run_getObj_map hr
 have h0:(!seen.isEmpty&&!(ZL 0 kv).toArray.isEmpty&&(ZL 0 kv).toArray.all (fun x=>decide (x.born>=kv.length)))=false:=by
  cases kv with
  | nil=>simp[ZL]
  | cons p l=>
   obtain⟨k,v⟩:=p
   simp[ZL]
 obtain⟨L,hL⟩:∃ L,L=(ZL 0 kv).toArray.filter (fun e=>!seen.contains e.born):=⟨_,rfl⟩
 have hmem:∀ x∈L,x∈ZL 0 kv/\x.born∉seen:=by
  intro x hx
  rw[hL,Array.mem_filter] at hx
  simpa using hx
 have e1:L.filter (fun x=>decide (x.born<kv.length))=L:=Array.filter_eq_self.2 (fun x hx=>by simpa using born_lt (hmem x hx).1)
 have e2:L.filter (fun x=>decide (x.born>=kv.length))= #[]:=by
  rw[Array.filter_eq_empty_iff]
  intro x hx
  have:=born_lt (hmem x hx).1
  simp;omega
 have hnx:(Instr.next (.pointer (some ⟨b,0,none⟩)) false ty).run P w=((choose (.mapNext (((if L.isEmpty then #[none] else #[])++(L++ #[]).map some:Array (Option MapEntry))).size)).run P w).andThen (fun j w1=>
   (match ((if L.isEmpty then #[none] else #[])++(L++ #[]).map some:Array (Option MapEntry))[j]? with
   | some (some e)=>do
    setObj b (.mapIter (some r) kv.length (seen.push e.born) kv.length)
    pure (Value.tuple #[.bool true,e.key,e.val])
   | some none=>(pure (Value.tuple #[.bool false]):Sem Value)
   | none=>stuck "Next: no such candidate").run P w1):=by
  simp only[Instr.next,qu,hgb,qt,hgr,h0,qp,qr,<-hL,e1,e2]
  rfl
 by_cases hz:L.size=0
 ·have:L= #[]:=Array.eq_empty_of_size_eq_zero hz
  subst this
  refine⟨w.drawn,.inl ⟨fun i hi=>?_,?_⟩⟩
  ·by_cases hs:i∈seen
   ·exact hs
   exfalso
   have hg:(ZL 0 kv)[i]? =some { key:=.string (bsO kv[i].1),val:=kv[i].2,born:=i }:=by
    rw[mkEs_get,zm hi];simp
   have hm:({ key:=.string (bsO kv[i].1),val:=kv[i].2,born:=i }:MapEntry)∈(ZL 0 kv).toArray.filter (fun e=>!seen.contains e.born):=by
    rw[Array.mem_filter]
    exact⟨by rw[List.mem_toArray];exact List.mem_of_getElem? hg,by simpa using hs⟩
   rw[<-hL] at hm
   simp at hm
  rw[hnx]
  simp[run_choose,Question.forced]
 have hne:L.isEmpty=false:=by rw[Array.isEmpty_eq_false_iff];intro e;rw[e] at hz;exact hz rfl
 obtain⟨j,d,hj,hlt⟩:=run_pick (P:=P) (w:=w) (n:=L.size) (by omega)
 have hx:=Array.getElem_mem hlt
 obtain⟨hm1,hm2⟩:=hmem _ hx
 obtain⟨k,v,g1,g2,g3⟩:=mem_mkEs hm1
 have hbl:b<w.heap.size:=(zT.1 hb).1
 refine⟨d,.inr ⟨L[j].born,k,v,g1,hm2,?_⟩⟩
 rw[hnx]
 simp only[hne,qp,qr,Array.append_empty,Array.empty_append,Array.size_map,hj,qt,Array.getElem?_map,Array.getElem?_eq_getElem hlt,qg]
 simp only[qu,setObj,Sem.run,hb,qt,g2,g3,qw]
section
variable {P:Program} {Y:Tab} [qU P Y] {nb n:Nat} {ops:Array Oper} {s:St}
theorem T.nextM [Fc] {id h hm:Nat} {kv:KV} {seen:Array Nat} {dst:Option Tmp} {x:Operand} {ty:TypeId} {pos:String} {af:Array Edge} {os:List Oper} {Q:Exit->St->Prop}
  (hops:ops.toList=⟨dst,.next x false,ty,pos,af,none⟩::os) (hda:js n (.region id ops false)=true) (hx:ev1 s x=.bref h 0)
  (hl:qx s.ms h=some (.miter hm kv.length seen)) (hmm:qx s.ms hm=some (.obj (jT kv))) (hkl:∀ p∈kv,isLit p.2=true)
  (hT:∀ i k v,kv[i]? =some (k,v)->i∉seen->RG P Y nb ops false os (stp s ⟨dst,.tup [lit (.bool true),lit (.string (bsO k)),lit v],[(h,.miter hm kv.length (seen.push i))],[h,hm]⟩) [] (fun s'=>Q .normal s'))
  (hF:(∀ i,i<kv.length->i∈seen)->RG P Y nb ops false os (stp s ⟨dst,.tup [lit (.bool false)],[],[h,hm]⟩) [] (fun s'=>Q .normal s')):T P n nb (.region id ops false) s Q:=by
 intro G a w R I hn hK
 simp only[js,zj] at hda
 have hda1:=hda.1
 rw[hops] at hda1
 simp only[List.all_cons,zj] at hda1
 obtain⟨hd0,hds⟩:=hda1
 have hidx:(List.range ops.size).map (fun i=>ops[i]?)=ops.toList.map some:=by
  apply List.ext_getElem?
  intro i
  simp only[qf]
  by_cases hi:i<ops.size
  ·simp[hi]
  simp[hi]
 have hsz:ops.size=os.length+1:=by rw[<-qk,hops];rfl
 have hrng:List.range ops.size=0::(List.range os.length).map Nat.succ:=by rw[hsz,List.range_succ_eq_map]
 rw[hops,hrng] at hidx
 simp only[zw,List.cons.injEq] at hidx
 obtain⟨hi0,hidx⟩:=hidx
 refine wpIn_region ?_
 rw[hrng]
 simp only[wpOpsIn,hi0]
 have hX:=kM I x
 rw[hx] at hX
 simp only[qz] at hX
 obtain⟨_,b,e0,hX⟩:=hX
 obtain⟨ka,kb,b',f1,f2,f3⟩:=I.ms _ _ hl
 obtain⟨k1,e1,e2⟩:=I.ms _ _ hmm
 rw[e0] at f1
 simp only[zh,Addr.mk.injEq,and_true] at f1
 subst f1
 have hwant:Region.wanted (⟨dst,.next x false,ty,pos,af,none⟩:Oper) (yielded ops a.tmps)=true:=rfl
 rw[if_pos hwant]
 have pd:∀ v,(a.put dst v).defers=a.defers:=fun v=>by cases dst<;>rfl
 have fin:∀ (e:Ef) (r:Value) (w':World) (G1:Gh),e.dst=dst->Stepped G w (qx s.ms) e.val e.ms G1 w' r->RG P Y nb ops false os (stp s e) [] (fun s'=>Q .normal s')->
   wpOpsIn fcF 0 P ops R ((List.range os.length).map Nat.succ) (a.put dst r) w':=by
  rintro e r w' G1 rfl S ⟨es,hes,_,hq⟩
  obtain⟨I1,Sn1⟩:=I.eff (K:=nb) S e.dst (dstOk_lt hd0 hn)
  refine textR (P:=P) _ hes hidx hds (G:=G1) I1 (by rw[Act.kN];exact hn) ?_
  intro G2 a2 w2 I2 Sn2 hn2 hd2
  exact hK _ _ _ _ _ hq I2 (Sn1.trans Sn2) hn2 (Mks.of (hd2.trans (pd r)))
 obtain⟨d,⟨hall,hrun⟩|⟨i,k,v,g1,g2,hrun⟩⟩:=run_nextM (P:=P) (ty:=ty) f3 e2
 ·have hex:(execOp a.eval ⟨dst,.next x false,ty,pos,af,none⟩).run P w=.ok (.value (.tuple #[.bool false])) { w with drawn:=d }:=by
   simp only[execOp,hX,qu,hrun,qt,qw]
  refine wpR_of ?_ (by simp) _
  unfold Oper.wp
  rw[hex]
  refine fin ⟨dst,.tup [lit (.bool false)],[],[h,hm]⟩ _ _ G Z ?_ (hF hall)
  have I':Inv G s.vw a { w with drawn:=d }:=I.drew d
  have S:=qL I'.ctxS (val:=.tup [lit (.bool false)]) (r:=.tuple #[.bool false]) (by simp only[qz];exact⟨_,rfl,j7 (vs:=[.bool false]) (by simp[isLit])⟩) (by simp[DV.refs,DV.qT,lit])
  exact { S with later:=⟨S.later.base,S.later.R0,S.later.R0c,S.later.R0m,S.later.os,S.later.tape,S.later.output,S.later.size,S.later.cold⟩ }
 have hex:(execOp a.eval ⟨dst,.next x false,ty,pos,af,none⟩).run P w=.ok (.value (.tuple #[.bool true,.string (bsO k),v])) { w with heap:=w.heap.setIfInBounds b (.mapIter (some (G.ρ hm).map) kv.length (seen.push i) kv.length),drawn:=d }:=by
  simp only[execOp,hX,qu,hrun,qt,qw]
 refine wpR_of ?_ (by simp) _
 unfold Oper.wp
 rw[hex]
 refine fin ⟨dst,.tup [lit (.bool true),lit (.string (bsO k)),lit v],[(h,.miter hm kv.length (seen.push i))],[h,hm]⟩ _ _ G Z ?_ (hT i k v g1 g2)
 have hbl:b<w.heap.size:=(zT.1 f3).1
 have hblk:∀ b',G.γ b'≠some h->(w.heap.setIfInBounds b (.mapIter (some (G.ρ hm).map) kv.length (seen.push i) kv.length))[b']? =w.heap[b']? :=by
  intro b' hb
  rw[Array.getElem?_setIfInBounds,if_neg (fun e=>hb (by rw[<-e];exact f2))]
 have hvl:isLit v=true:=hkl (k,v) (List.mem_of_getElem? g1)
 have S:=jr (m:=.miter hm kv.length (seen.push i)) (val:=.tup [lit (.bool true),lit (.string (bsO k)),lit v]) (r:=.tuple #[.bool true,.string (bsO k),v]) I.ctxS (B:=G.ρ h) hl (by rw[Gh.km];exact .inl Z)
  (w':={ w with heap:=w.heap.setIfInBounds b (.mapIter (some (G.ρ hm).map) kv.length (seen.push i) kv.length),drawn:=d }) Z Z Z (by simp) hblk ?_ ?_ (by simp[DV.refs,DV.qT,lit]) (by intro k hk;simp[MO.refs] at hk;subst hk;exact⟨_,hmm⟩)
 ·rw[Gh.km] at S;exact S
 ·rw[Gh.km]
  simp only[qz]
  refine⟨_,rfl,j7 (vs:=[.bool true,.string (bsO k),v]) ?_⟩
  intro u hu
  rcases zF.1 hu with rfl|hu
  ·rfl
  exact lits2 Z hvl u hu
 rw[Gh.km]
 simp only[jc]
 refine⟨ka,kb,b,e0,f2,?_⟩
 show (w.heap.setIfInBounds b _)[b]? =_
 rw[Array.getElem?_setIfInBounds];simp[hbl]
end
def SubL (ms:List (Nat×MO)):List (Nat×MO)->Prop
 | []=>True
 | p::l=>qx ms p.1=some p.2/\SubL ms l
theorem SubL.look {ms:List (Nat×MO)}:∀ {l:List (Nat×MO)},SubL ms l->∀ {h:Nat} {o:MO},qx l h=some o->qx ms h=some o/\h∈l.map (·.1)
 | [],_,h,o,e=>by cases e
 | p::l,H,h,o,e=>by
  rw[qM] at e
  split at e
  ·rename_i hq
   cases e
   rw[<-hq];exact⟨H.1,by simp⟩
  have:=H.2.look e
  exact⟨this.1,by simp only[zw,zF];exact .inr this.2⟩
section
variable {P:Program} {Y:Tab} [qU P Y] {nb:Nat} {s:St} {dst:Option Tmp} {ty u:TypeId} {pos:String} {af:Array Edge} {gd:Option (Nat×Bool)} {t:TypeId} {x y z:Operand}
theorem B.kU {f:Operand} {args:Array Operand} {ats:Array TypeId} {fid:FuncId} {first caps ds:List DV} {val:DV} {l out:List (Nat×MO)} (H:q6 P fid ds (qx l) val out) (hf:tgtX (ev1 s f)=some (fid,first,caps))
  (hds:first++args.toList.map (ev1 s)++caps=ds) (hsub:SubL s.ms l) (hcl:jk l=true) (hnew:out.all (fun p=>jJ l p.1||!jJ s.ms p.1)=true):Body P Y nb s ⟨dst,.call ⟨.value f,args,ats⟩,ty,pos,af,gd⟩ val out (l.map (·.1)):=by
 refine .inr fun σ G a w next Q h1 h2 I hn=>?_
 have hops:(Op.call ⟨.value f,args,ats⟩).operands.toList=f::args.toList:=call_ops
 rw[hops] at h1
 have hev:∀ z∈f::args.toList,ev1 σ z=ev1 s z:=fun z hz=>ev1_agree h1 hz
 have hF:qz G (G.rd w) (ev1 s f) (a.eval f):=by rw[<-hev f (by simp)];exact kM I f
 obtain⟨vx,vy,ef,g1,g2⟩:=tgtX_sound hf hF
 have hargs:qD G (G.rd w) (args.toList.map (ev1 s)) (args.toList.map a.eval):=by
  rw[<-List.map_congr_left (f:=ev1 σ) (g:=ev1 s) (fun z hz=>hev z (by simp[hz]))]
  have:∀ l:List Operand,qD G (G.rd w) (l.map (ev1 σ)) (l.map a.eval):=by
   intro l
   induction l with
   | nil=>simp[qD]
   | cons z l ih=>simp only[zw,qD];exact⟨_,_,rfl,kM I z,ih⟩
  exact this _
 have hall:qD G (G.rd w) ds (vx++args.map a.eval++vy).toList:=by
  rw[<-hds]
  simp only[Array.toList_append,Array.toList_map]
  exact (g1.append hargs).append g2
 have HL:q6 P fid ds (qx σ.ms) val out:=by
  refine H.frame (fun h o e=>?_) (fun k o h e hh=>jR hcl k o e h hh) (fun h hh e=>?_)
  ·obtain⟨e1,e2⟩:=hsub.look e
   rw[h2 h (.inl e2)];exact e1
  rw[h2 h (.inr hh)];exact allHas hnew h hh e
 have hexec:(execOp a.eval ⟨dst,.call ⟨.value f,args,ats⟩,ty,pos,af,gd⟩).run P w=(callFunc fid (vx++args.map a.eval++vy)).run P w:=by
  simp only[execOp,resolve,ef,Deferred.ofValue,qu,qw,qt,invoke]
 refine wpR_of ?_ (by simp)
 unfold Oper.wp
 rcases HL.call G w _ I.mem hall with ⟨he,hcalls⟩|⟨r,w',he,G',S⟩
 ·rw[hexec,he,Oper.upon_enter]
  refine Calls.mono hcalls ?_
  rintro e w'' ⟨r,rfl,G',S⟩
  exact hn r w'' G' S
 rw[hexec,he]
 exact hn r w' G' S
def setF (k c:List UInt8):List Fld->List Fld
 | []=>[(k,c)]
 | (a,x)::l=>if k=a then (a,c)::l else (a,x)::setF k c l
def jn (k:List UInt8):List Fld->Option (List UInt8)
 | []=>none
 | (a,x)::l=>if k=a then some x else jn k l
def kvF (m:List Fld):KV:=m.map fun p=>(p.1,.string (bsO p.2))
theorem kvF_set (k c:List UInt8):∀ m:List Fld,Zq k (.string (bsO c)) (kvF m)=kvF (setF k c m)
 | []=>rfl
 | (a,x)::l=>by
  simp only[kvF,zw,Zq,setF]
  split
  ·rfl
  rw[zw];congr 1;exact kvF_set k c l
theorem kvF_get (k:List UInt8):∀ m:List Fld,getKV k (kvF m)=(jn k m).map fun c=>.string (bsO c)
 | []=>rfl
 | (a,x)::l=>by
  simp only[kvF,zw,getKV,jn]
  split
  ·rfl
  exact kvF_get k l
theorem kvF_lit (m:List Fld):∀ p∈kvF m,isLit p.2=true:=by
 intro p hp
 obtain⟨q,_,rfl⟩:=zE.1 hp
 rfl
theorem kvF_names (m:List Fld):(kvF m).map (·.1)=m.map (·.1):=by simp[kvF,Function.comp_def]
theorem B.newMapF {d h:Nat} (hh:nameOf nb s.ms (some d)=h) (hm:jJ s.ms h=false):Body P Y nb s ⟨some d,.makeMap t none,ty,pos,af,gd⟩ (.mref h) [(h,.obj (jT (kvF [])))] []:=B.newMap hh hm
theorem B.setMapF {h:Nat} {m:List Fld} {k c:List UInt8} {kt et:TypeId} (hx:ev1 s x=.mref h) (hy:ev1 s y=lit (.string (bsO k))) (hz:ev1 s z=lit (.string (bsO c))) (hl:qx s.ms h=some (.obj (jT (kvF m))))
  (und:Y.underlying t=some (.map kt et)) (uk:Y.underlying kt=some .string) :
  Body P Y nb s ⟨none,.mapUpdate t x y z,ty,pos,af,gd⟩ .dead [(h,.obj (jT (kvF (setF k c m))))] [h]:=by
 have:=B.setMap (P:=P) (Y:=Y) (nb:=nb) (s:=s) (ty:=ty) (pos:=pos) (af:=af) (gd:=gd) (t:=t) hx hy hz hl und uk
 rwa [kvF_set] at this
theorem B.getMapF {h:Nat} {m:List Fld} {k:List UInt8} {kt et:TypeId} {i:TypeInfo} (hx:ev1 s x=.mref h) (hy:ev1 s y=lit (.string (bsO k))) (hl:qx s.ms h=some (.obj (jT (kvF m))))
  (und:Y.underlying t=some (.map kt et)) (uk:Y.underlying kt=some .string) (hi:Y.info? et=some i) (hz:i.zero=some (.string (bsO []))) :
  Body P Y nb s ⟨dst,.lookup t x y true,ty,pos,af,gd⟩ (.tup [lit (.string (bsO ((jn k m).getD []))),lit (.bool (jn k m).isSome)]) [] [h]:=by
 have:=B.getMap (P:=P) (Y:=Y) (nb:=nb) (s:=s) (dst:=dst) (ty:=ty) (pos:=pos) (af:=af) (gd:=gd) (t:=t) hx hy hl und uk hi hz Z (kvF_lit m)
 rw[kvF_get] at this
 cases hg:jn k m with
 | none=>rw[hg] at this;exact this
 | some c=>rw[hg] at this;exact this
theorem ev1_refs {σ:St} {G:Gh} {a:Act} {w:World} (I:Inv G σ.vw a w) (x:Operand):∀ h∈(ev1 σ x).refs,∃ o,qx σ.ms h=some o:=by
 intro h hh
 unfold ev1 at hh
 rw[refs_evD] at hh
 cases x with
 | tmp t=>exact I.refsT t h hh
 | const v=>simp only[evS,kz] at hh;cases hh
 | global g=>simp only[evS,DV.refs] at hh;cases hh
 | func f=>simp only[evS,DV.refs] at hh;cases hh
theorem Zp.ofR {o:Oper} {val:DV} {m:List (Nat×MO)} {rd:List Nat} (H:∀ (σ:St) (G:Gh) (a:Act) (w:World),(∀ x∈o.op.operands.toList,qz G (G.rd w) (ev1 s x) (a.eval x))->(∀ x∈o.op.operands.toList,∀ h∈(ev1 s x).refs,∃ o,qx σ.ms h=some o)->
  (∀ h,(h∈rd\/h∈m.map (·.1))->qx σ.ms h=qx s.ms h)->Inv G σ.vw a w->
  ∃ r w' G',((execOp a.eval o).run P w=.ok (.value r) w'\/(execOp a.eval o).run P w=.ok .skip w'/\r=undef)/\Stepped G w (qx σ.ms) val m G' w' r):Zp P s o val m rd:=by
 intro σ G a w next Q h1 h2 I hn
 obtain⟨r,w',G',hrun,S⟩:=H σ G a w (fun x hx=>by rw[<-ev1_agree h1 hx];exact kM I x) (fun x hx=>by rw[<-ev1_agree h1 hx];exact ev1_refs I x) h2 I
 have:=hn r w' G' S
 have hnd:∀ c,o.op≠.defer c:=by
  rcases hrun with hrun|⟨hrun,_⟩
  ·exact notDefer hrun (by simp)
  exact notDefer hrun (by simp)
 refine wpR_of ?_ hnd
 unfold Oper.wp
 rcases hrun with hrun|⟨hrun,rfl⟩
 ·rw[hrun];exact this
 rw[hrun];exact this
theorem B.idxA {ds:List DV} {d:DV} {i:Nat} {len:Nat} {e:TypeId} (hx:ev1 s x=.agg ds) (hy:ev1 s y=lit (.int .i64 (i:Int))) (und:Y.underlying t=some (.array len e)) (ha:aggT Y e=some false) (hs:szT Y e=some 1)
  (hi:i<len) (hd:ds[i]? =some d):Body P Y nb s ⟨dst,.index t x y,ty,pos,af,gd⟩ d [] []:=by
 refine .inr (Zp.ofR fun σ G a w hv hrf _ I=>?_)
 have hX:=hv x (by simp[Op.operands])
 have hR:=hrf x (by simp[Op.operands])
 rw[hx] at hR
 have hY:=hv y (by simp[Op.operands])
 rw[hx] at hX;rw[hy] at hY
 have hY':=(qC hY).1
 simp only[qz] at hX
 obtain⟨vs,hX,_,hds⟩:=hX
 have get:∀ (ds:List DV) (vs:List Value) (i:Nat),qD G (G.rd w) ds vs->ds[i]? =some d->∃ v,vs[i]? =some v/\qz G (G.rd w) d v:=by
  intro ds
  induction ds with
  | nil=>intro vs i _ h;simp at h
  | cons d0 l ih=>
   intro vs i h hi
   simp only[qD] at h
   obtain⟨v,vs',rfl,h1,h2⟩:=h
   cases i with
   | zero=>simp only[List.getElem?_cons_zero,zh] at hi;subst hi;exact⟨v,rfl,h1⟩
   | succ i=>exact ih vs' i h2 (by simpa using hi)
 obtain⟨v,g1,g2⟩:=get _ _ _ hds hd
 have hrun:(Instr.index t (.agg vs) (.int .i64 (i:Int))).run P w=.ok v w:=by
  have hb:(0:Int)<=(i:Int)/\(i:Int)<(len:Int):=by omega
  simp only[Instr.index,qu,asIntOf,qw,qR und,qt,hb,and_self,qq,Sem.run_ite,jd hs,zU,Nat.mul_one]
  exact ZG ha (by rw[<-qj];exact g1)
 refine⟨v,w,G,.inl ?_,qL I.ctxS g2 (fun k hk=>?_)⟩
 ·simp only[execOp,hX,hY',qu,hrun,qt,qw]
 exact hR k (jq.2 ⟨d,List.mem_of_getElem? hd,hk⟩)
theorem B.steql {a b:List UInt8} {p q:Bool} (hx:ev1 s x=.pv (.agg [.lit (.string (bsO a)),.lit (.bool p)])) (hy:ev1 s y=.pv (.agg [.lit (.string (bsO b)),.lit (.bool q)])) (hf:flatEq Y t=some [.string,.bool]) :
  Body P Y nb s ⟨dst,.binOp .eql t x y u,ty,pos,af,gd⟩ (lit (.bool (decide (a=b)&&(p==q)))) [] []:=by
 refine B.bin hx hy ?_
 have h1:decide (a=b)=((bsO a).toList==(bsO b).toList):=by rw[zM];simp[toList_inj,bsO_inj]
 have h2:binQ Y .eql t (.pv (.agg [.lit (.string (bsO a)),.lit (.bool p)])) (.pv (.agg [.lit (.string (bsO b)),.lit (.bool q)]))=some (true,lit (.bool (decide (a=b)&&(p==q)))):=by
  simp only[binQ,hf,eqVs,eqV,h1,Bool.and_true]
 show qE (binW Y .eql t (qx []) (ZC y) _ _)=_
 have h3:binW Y .eql t (qx []) (ZC y) (.pv (.agg [.lit (.string (bsO a)),.lit (.bool p)])) (.pv (.agg [.lit (.string (bsO b)),.lit (.bool q)]))=some (true,lit (.bool (decide (a=b)&&(p==q)))):=by
  unfold binW
  simp only[nilQ,nilKind,samePQ,h2]
 rw[h3];rfl
end
def PostM (Y:Tab) (F:FnI) (lo:Nat) (val:DV) (out:List (Nat×MO)) (e:Exit) (s:St):Prop:=(e=.normal\/e=.ret)/\closeX Y F lo [] s=some (val,out)
theorem leafM {Y:Tab} {F:FnI} {lo:Nat} {val val0:DV} {out out0:List (Nat×MO)} {s:St} (h:closeX Y F lo [] s=some (val0,out0)) (hv:val0=val) (ho:out0=out):PostM Y F lo val out .ret s:=⟨.inr Z,by rw[h,hv,ho]⟩
theorem callOk_ofM {P:Program} {Y:Tab} [qU P Y] {F:FnI} {f:FuncId} {fn:Func} {c:Code} (lo:Nat) (hf:P.funcs[f]? =some fn) (hb:fn.body=some c) (hn:fn.ntmps=F.n) (hr:fn.results=F.res) (he:∀ args w,(callFunc f args).run P w=.ok (.enter f args) w)
  {ds:List DV} {val:DV} {out:List (Nat×MO)} (hl:ds.length<=F.n) (hrf:DV.qT ds=[])
  (h:TK P F.n lo (PostM Y F lo val out) c [] ⟨zipT 0 ds,[]⟩):q6 P f ds (qx []) val out:=by
 refine CallR.ok (CallR.of (Y:=Y) (F:=F) (lo:=lo) hf hb hn hr he hl (fun h hh=>by rw[hrf] at hh;cases hh) (fun h o e=>by cases e) (T.mono h ?_))
 rintro e s' ⟨h1,h2⟩
 exact⟨h1,val,out,h2,rfl,rfl⟩
section
variable {P:Program} {Y:Tab} [qU P Y] {nb:Nat} {s:St} {dst:Option Tmp} {ty u:TypeId} {pos:String} {af:Array Edge} {gd:Option (Nat×Bool)} {t:TypeId} {x y z:Operand}
theorem B.makeSl {α:Type} {enc:α->List PV} {z0:α} {n m d h sz bs:Nat} {mi:Int} {e:TypeId} {i:TypeInfo} {zv:Value} (hx:ev1 s x=lit (.int .i64 (n:Int))) (hy:ev1 s y=lit (.int .i64 mi)) (hmi:mi=(m:Int)) (und:Y.underlying t=some (.slice e)) (hi:Y.info? e=some i)
  (hz:i.zero=some zv) (hc:ZW zv.cells.toList=some (enc z0)) (hq:(Nat.blt 0 i.size&&Nat.beq zv.cells.size i.size&&Nat.beq i.size sz)=true) (hb:i.bytes=bs)
  (hle:n<=m/\bs*m<=281474976710656/\m<=9223372036854775807) (hh:nameOf nb s.ms (some d)=h) (hm:jJ s.ms h=false) :
  Body P Y nb s ⟨some d,.makeSlice t x y,ty,pos,af,gd⟩ (.aref h 0) [(h,.arr 0 sz e ((List.replicate n z0).map enc))] []:=by
 subst hb
 simp only[zj,Nat.beq_eq,Nat.blt_eq] at hq
 obtain⟨⟨k1,k2⟩,rfl⟩:=hq
 refine B.of0 (val0:=.aref h 0) (m0:=[(h,.arr 0 i.size e ((List.replicate n z0).map enc))]) (lo:=0) (nm:=h) (ke P) ?_ ?_ (Frz.refl _ _ _) ?_
 ·intro q hq
  have:q=x\/q=y:=by simpa [Op.operands] using hq
  rcases this with rfl|rfl
  ·rw[hx];rfl
  rw[hy];rfl
 ·have e1:evU (tmpsOf [x,y]) s x=_:=(qX (by simp)).trans hx
  have e2:evU (tmpsOf [x,y]) s y=_:=(qX (by simp)).trans hy
  have hv:effV Y h (some d) (.makeSlice t x y) (evU (tmpsOf [x,y]) s) (qx [])=makeSliceV Y h t (evU (tmpsOf [x,y]) s x) (evU (tmpsOf [x,y]) s y) (qx []):=rfl
  show (match effV Y h (some d) (.makeSlice t x y) (evU (tmpsOf [x,y]) s) (qx []) with|some ⟨true,v,m⟩=>some (v,m)|_=>none)=_
  rw[hv,e1,e2,hmi]
  have hl:(qx ([]:List (Nat×MO)) h).isNone=true:=rfl
  have hg:decide (0<=(n:Int)/\(n:Int)<=(m:Int)/\(i.bytes:Int)*(m:Int)<=281474976710656/\(m:Int)<=9223372036854775807)=true:=by
   apply zl
   refine⟨by omega,by omega,?_,by omega⟩
   have:=hle.2.1
   rw[<-Int.natCast_mul];omega
  simp only[makeSliceV,lit,und,hi,hz,hc,hl,k1,k2,decide_true,Bool.and_self,qq,hg,zU,List.map_replicate]
 simp[hm]
theorem Z4.ctx2 {G:Gh} {w:World} {look:Nat->Option MO} (M:Z4 G look w) {ev:Operand->DV} {ρ:Operand->Value} (h1:∀ x,qz G (G.rd w) (ev x) (ρ x)) (h2:∀ x,∀ h∈(ev x).refs,∃ o,look h=some o):Ctx G w ρ ev look look:=by
 refine⟨⟨h1,M.ms,M.readable.1,M.readable.2⟩,fun _ _ h=>h,?_,M.fresh⟩
 rintro h (⟨x,hx⟩|⟨k,o,ho,hh⟩)
 ·exact h2 x h hx
 exact M.refsM k o h ho hh
theorem B.copyL {α:Type} {enc:α->List PV} {l r:List α} {h v sz:Nat} {e at2:TypeId} (hx:ev1 s x=.aref h v) (hm:qx s.ms h=some (.arr v sz e (r.map enc))) (hy:ev1 s y=.pv (.slice (l.map enc))) (hlen:r.length=l.length)
  (und:Y.underlying t=some (.slice e)) (hs:szT Y e=some sz) (h0:Nat.blt 0 sz=true) (hsz:∀ a,(enc a).length=sz) :
  Body P Y nb s ⟨dst,.call ⟨.builtin .copy,⟨[x,y]⟩,⟨[t,at2]⟩⟩,ty,pos,af,gd⟩ (lit (.int .i64 ((l.length:Nat):Int))) [(h,.arr v sz e (l.map enc))] [h]:=by
 refine .inr (Zp.of fun σ G a w hv hl I=>?_)
 have hX:=hv x (show x∈[x,y] by simp)
 have hY:=hv y (show y∈[x,y] by simp)
 rw[hx] at hX;rw[hy] at hY
 have hlk:qx σ.ms h=some (.arr v sz e (r.map enc)):=by rw[hl h (.inl (by simp))];exact hm
 have C:Ctx G w (fun z=>match z with| .tmp 0=>a.eval x| .tmp 1=>a.eval y|_=>undef) (fun z=>match z with| .tmp 0=>.aref h v| .tmp 1=>.pv (.slice (l.map enc))|_=>.dead) (qx σ.ms) (qx σ.ms):=by
  refine I.mem.ctx2 (fun z=>?_) (fun z k hk=>?_)
  ·split
   ·exact hX
   ·exact hY
   simp only[qz]
  split at hk
  ·simp only[DV.refs,zg] at hk;subst hk;exact⟨_,hlk⟩
  ·simp[DV.refs] at hk
  simp[DV.refs] at hk
 have hc:copyV Y t (.aref h v) (.pv (.slice (l.map enc))) (qx σ.ms)=some ⟨true,lit (.int .i64 ((l.length:Nat):Int)),[(h,.arr v sz e (l.map enc))]⟩:=by
  unfold copyV
  have hal:jK sz (l.map enc)=true:=by
   unfold jK
   rw[zp]
   intro b hb
   obtain⟨c,_,rfl⟩:=zE.1 hb
   simpa using hsz c
  have hcs:conts (qx σ.ms) (.pv (.slice (l.map enc)))=some (l.map enc):=by simp[conts]
  have hp:0<sz:=by simpa using h0
  have hn:Min.min (l.map enc).length (r.map enc).length=l.length:=by simp[hlen]
  simp only[und,hs,hlk,hcs,hp,and_self,qq,hal,hn]
  rw[zx (by simp),zX (by simp[hlen]),zS]
 obtain⟨r',w',G',h1,h2⟩:=copyV_sound (P:=P) C (t:=t) (st:=at2) (ty:=ty) (d:=.tmp 0) (s:=.tmp 1) hc rfl
 refine⟨r',w',G',.inl ?_,h2⟩
 have lift:∀ {q:Sem Value} {r:Value} {w':World},q.run P w=.ok r w'->(do Pure.pure (Next.value (<-q)):Sem Next).run P w=.ok (.value r) w':=by
  intro q r w' h
  simp only[qu,h,qt,qw]
 exact lift (q:=Builtin.copy_ _ _ _) (by simpa using h1)
end
def dn:DV->Option PV
 | .nils=>some (.slice [])
 | .pv p=>some p
 | _=>none
def dnL:List DV->Option (List PV)
 | []=>some []
 | d::ds=>match dn d,dnL ds with
  | some p,some ps=>some (p::ps)
  | _,_=>none
theorem dn_ok {G:Gh} {R:Rd} {d:DV} {p:PV} {v:Value} (h:dn d=some p) (hv:qz G R d v):qN R p v:=by
 cases d with
 | nils=>
  cases h
  simp only[qz] at hv
  subst hv
  simp only[qN]
  exact⟨none,0,rfl,zz _,.inl trivial⟩
 | pv q=>cases h;simpa only[qz] using hv
 | _=>cases h
theorem dnL_ok {G:Gh} {R:Rd}:∀ {ds:List DV} {ps:List PV} {vs:List Value},dnL ds=some ps->qD G R ds vs->qA R ps vs
 | [],ps,vs,h,hv=>by
  cases h
  simpa only[qD,qA] using hv
 | d::ds,ps,vs,h,hv=>by
  simp only[dnL] at h
  split at h
  ·rename_i p q h1 h2
   cases h
   simp only[qD] at hv
   obtain⟨v,vs',rfl,k1,k2⟩:=hv
   simp only[qA]
   exact⟨v,vs',rfl,dn_ok h1 k1,dnL_ok h2 k2⟩
  cases h
theorem Frz.aggN (l:List (Nat×MO)) {ds:List DV} {ps:List PV} (hd:dnL ds=some ps):Frz l (.agg ds) [] (.pv (.agg ps)) []:=by
 intro G w G1 w1 r M S
 have hv:=S.hval
 simp only[qz] at hv
 obtain⟨vs,rfl,ho,hvs⟩:=hv
 refine⟨G1,{ S with hval:=?_,refs:=by simp[DV.refs] }⟩
 simp only[qz,qN]
 exact⟨vs,rfl,ho,dnL_ok hd hvs⟩
theorem relDVs_pv {G:Gh} {R:Rd}:∀ {ps:List PV} {vs:List Value},qA R ps vs->qD G R (ps.map .pv) vs
 | [],vs,h=>by simpa only[qD,qA,zZ] using h
 | p::ps,vs,h=>by
  simp only[qA] at h
  obtain⟨v,vs',rfl,k1,k2⟩:=h
  simp only[qD,zw]
  exact⟨v,vs',rfl,by simpa only[qz] using k1,relDVs_pv k2⟩
theorem Frz.boxN (l:List (Nat×MO)) {h:Nat} {T:TypeId} {ds:List DV} {ps:List PV} (hd:dnL ds=some ps):Frz l (.bref h 0) [(h,.box T ds)] (.bref h 0) [(h,.box T (ps.map .pv))]:=by
 intro G w G1 w1 r M S
 have hb:=S.hms h _ (by simp:(h,MO.box T ds)∈[(h,MO.box T ds)])
 refine⟨G1,{ S with hms:=?_,old:=by simpa using S.old,own:=by simpa using S.own,refs:=by simpa using S.refs,refsM:=?_ }⟩
 ·intro k o hk
  simp only[zg,zu] at hk
  obtain⟨rfl,rfl⟩:=hk
  simp only[jc] at hb ⊢
  obtain⟨e1,b,c,e2,e3,e4,e5,e6⟩:=hb
  exact⟨e1,b,c,e2,e3,e4,e5,relDVs_pv (dnL_ok hd e6)⟩
 intro k o hk h' hh
 simp only[zg,zu] at hk
 obtain⟨rfl,rfl⟩:=hk
 simp only[MO.refs,refsL_pv] at hh
 cases hh
def nz:DV->DV
 | .nils=>.pv (.slice [])
 | d=>d
theorem nz_ok {G:Gh} {R:Rd} {d:DV} {v:Value} (h:qz G R d v):qz G R (nz d) v:=by
 unfold nz
 split
 ·simp only[qz];exact dn_ok Z h
 exact h
theorem nz_refs (d:DV):(nz d).refs=d.refs:=by
 unfold nz
 split
 ·simp[DV.refs]
 rfl
theorem nzL_ok {G:Gh} {R:Rd}:∀ {ds:List DV} {vs:List Value},qD G R ds vs->qD G R (ds.map nz) vs
 | [],_,h=>h
 | d::ds,vs,h=>by
  simp only[qD] at h
  obtain⟨v,vs',rfl,k1,k2⟩:=h
  simp only[qD,zw]
  exact⟨v,vs',rfl,nz_ok k1,nzL_ok k2⟩
theorem nzL_refs:∀ ds:List DV,DV.qT (ds.map nz)=DV.qT ds
 | []=>rfl
 | d::ds=>by simp only[zw,DV.qT,nz_refs,nzL_refs ds]
theorem q6.nz {P:Program} {f:FuncId} {ds ds1:List DV} {look:Nat->Option MO} {val:DV} {ms:List (Nat×MO)} (H:q6 P f ds1 look val ms) (e:ds.map Lens.nz=ds1):q6 P f ds look val ms:=by
 subst e
 exact⟨fun k hk=>H.refs k (by rw[nzL_refs];exact hk),fun G w vs M hv=>H.call G w vs M (nzL_ok hv)⟩
def PostL (Y:Tab) (F:FnI) (lo:Nat) (l:List (Nat×MO)) (val:DV) (out:List (Nat×MO)) (e:Exit) (s:St):Prop:=(e=.normal\/e=.ret)/\closeX Y F lo l s=some (val,out)
theorem Zh {Y:Tab} {F:FnI} {lo:Nat} {l:List (Nat×MO)} {val val0:DV} {out out0:List (Nat×MO)} {s:St} {e:Exit} (he:e=.normal\/e=.ret) (h:closeX Y F lo l s=some (val0,out0)) (hv:val0=val) (ho:out0=out):PostL Y F lo l val out e s:=⟨he,by rw[h,hv,ho]⟩
theorem callOk_ofL {P:Program} {Y:Tab} [qU P Y] {F:FnI} {f:FuncId} {fn:Func} {c:Code} (lo:Nat) (l:List (Nat×MO)) (hf:P.funcs[f]? =some fn) (hb:fn.body=some c) (hn:fn.ntmps=F.n) (hr:fn.results=F.res) (he:∀ args w,(callFunc f args).run P w=.ok (.enter f args) w)
  {ds:List DV} {val:DV} {out:List (Nat×MO)} (hl:ds.length<=F.n) (hrf:(DV.qT ds).all (jJ l)=true) (hnb:l.all (fun p=>Nat.blt p.1 lo)=true)
  (h:TK P F.n lo (PostL Y F lo l val out) c [] ⟨zipT 0 ds,l⟩):q6 P f ds (qx l) val out:=by
 refine CallR.ok (CallR.of (Y:=Y) (F:=F) (lo:=lo) hf hb hn hr he hl (fun h hh=>jy.1 (zp.1 hrf h hh)) (fun h o e=>by have:=zp.1 hnb _ (jf e);simpa using this) (T.mono h ?_))
 rintro e s' ⟨h1,h2⟩
 exact⟨h1,val,out,h2,rfl,rfl⟩
end Go.Lens
end
