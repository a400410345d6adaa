/- Laws of a step by step reckoning of programs, and of the functions of the program that the claims share, without conditions. -/
import Derived.Test.YtomghboflcafbaaGreatDoorS2
import Derived.MapKept
set_option linter.unusedVariables false
set_option linter.unusedSimpArgs false
section
namespace Go.Lens
set_option linter.unusedSectionVars false
variable [Lz]
noncomputable def ev1 (s:St) (x:Operand):DV:=evD (evS s x)
section
variable {P:Program} {Y:Tab} {nb:Nat} {s:St} {ops:Array Oper} {o:Oper}
theorem tmpsOf_mem {xs:List Operand} {t:Tmp} (h:Operand.tmp t∈xs):t∈tmpsOf xs:=by
 unfold tmpsOf
 exact List.mem_filterMap.2 ⟨_,h,rfl⟩
theorem evU_own {xs:List Operand} {x:Operand} (hx:x∈xs):evU (tmpsOf xs) s x=ev1 s x:=by
 unfold evU ev1
 congr 1
 cases x with
 | tmp t=>
  simp only[evT,evS]
  have:(tmpsOf xs).any (Nat.beq t)=true:=List.any_eq_true.2 ⟨t,tmpsOf_mem hx,Nat.beq_refl t⟩
  rw[this];rfl
 | _=>rfl
noncomputable def O0:Orc:=fun _ _ _ _=>none
theorem O0_ok (P:Program):OrcOk P O0:=fun _ _ _ _ _ _ h=>by cases h
open Classical in
noncomputable def one (f:FuncId) (ds:List DV) (l:List (Nat×MO)) (val:DV) (out:List (Nat×MO)):Orc:=fun f' _ ds' l'=>if f'=f∧ds'=ds∧l'=l then some (val,out) else none
theorem one_ok {f:FuncId} {ds:List DV} {l:List (Nat×MO)} {val:DV} {out:List (Nat×MO)} (h:CallOk P f ds (lookM l) val out):OrcOk P (one f ds l val out):=by
 intro f' lo ds' l' v m e
 unfold one at e
 split at e
 ·rename_i hq
  obtain⟨rfl,rfl,rfl⟩:=hq
  cases e
  exact h
 ·cases e
theorem one_eq (f:FuncId) (ds:List DV) (l:List (Nat×MO)) (val:DV) (out:List (Nat×MO)) (lo:Nat):one f ds l val out f lo ds l=some (val,out):=by
 unfold one;rw[if_pos ⟨rfl,rfl,rfl⟩]
theorem ledM_nil (ms:List (Nat×MO)) (k:Nat):ledM ms [] k=[]:=by
 match k with
 | 0=>rfl
 | 1=>rfl
 | k+2=>simp only[ledM];rfl
theorem rdM_nil (ms:List (Nat×MO)) (k:Nat):rdM ms [] [] k=[]:=by
 match k with
 | 0=>rfl
 | 1=>rfl
 | k+2=>rfl
theorem B.of0 {O:Orc} {val0 val:DV} {m0 m:List (Nat×MO)} {lo nm:Nat} (hO:OrcOk P O) (hr:∀ x∈o.op.operands.toList,(ev1 s x).refs=[])
  (h:effX O Y lo nm o (evU (tmpsOf o.op.operands.toList) s) []=some (val0,m0)) (hz:Frz [] val0 m0 val m) (hm:m.all (fun p=>!hasM s.ms p.1)=true):Body P Y nb s o val m []:=by
 have hrs:(o.op.operands.toList.flatMap fun x=>(evU (tmpsOf o.op.operands.toList) s x).refs)=[]:=by
  rw[List.flatMap_eq_nil_iff]
  intro x hx
  rw[evU_own hx];exact hr x hx
 refine .inl ⟨O,[],val0,m0,lo,nm,hO,?_,?_,?_,h,hz,?_⟩
 ·rw[hrs];exact ledM_nil _ _
 ·rw[hrs];exact rdM_nil _ _
 ·rw[hrs];rfl
 ·rw[←hm]
  apply congrArg (List.all m)
  funext p
  simp[hasM,lookM_eq,assocM]
theorem B.pure {O:Orc} {val:DV} {lo nm:Nat} (hO:OrcOk P O) (hr:∀ x∈o.op.operands.toList,(ev1 s x).refs=[])
  (h:effX O Y lo nm o (evU (tmpsOf o.op.operands.toList) s) []=some (val,[])):Body P Y nb s o val [] []:=
 B.of0 hO hr h (Frz.refl _ _ _) rfl
section
variable {dst:Option Tmp} {ty u:TypeId} {pos:String} {af:Array Edge} {gd:Option (Nat×Bool)} {t:TypeId} {x y:Operand}
theorem B.move {p:PV} (h:ev1 s x=.pv p):Body P Y nb s ⟨dst,.move x,ty,pos,af,gd⟩ (.pv p) [] []:=by
 refine B.pure (lo:=0) (nm:=0) (O0_ok P) ?_ ?_
 ·intro z hz
  have:z=x:=by simpa [Op.operands] using hz
  rw[this,h];rfl
 ·show mvE (evU (tmpsOf [x]) s x)=_
  rw[evU_own (by simp),h];rfl
theorem B.assign {p:PV} (h:ev1 s x=.pv p):Body P Y nb s ⟨dst,.assign x,ty,pos,af,gd⟩ (.pv p) [] []:=by
 refine B.pure (lo:=0) (nm:=0) (O0_ok P) ?_ ?_
 ·intro z hz
  have:z=x:=by simpa [Op.operands] using hz
  rw[this,h];rfl
 ·show mvE (evU (tmpsOf [x]) s x)=_
  rw[evU_own (by simp),h];rfl
theorem B.bin {op:BinOp} {a b:PV} {val:DV} (hx:ev1 s x=.pv a) (hy:ev1 s y=.pv b) (h:binE Y op t (lookM []) (isNilC y) (.pv a) (.pv b)=some (val,[])) :
  Body P Y nb s ⟨dst,.binOp op t x y u,ty,pos,af,gd⟩ val [] []:=by
 refine B.pure (lo:=0) (nm:=0) (O0_ok P) ?_ ?_
 ·intro z hz
  have:z=x∨z=y:=by simpa [Op.operands] using hz
  rcases this with rfl|rfl
  ·rw[hx];rfl
  ·rw[hy];rfl
 ·show binF Y op t (lookM []) (isNilC y) (evU (tmpsOf [x,y]) s x) (evU (tmpsOf [x,y]) s y)=_
  rw[evU_own (by simp),evU_own (by simp),hx,hy,binF_eq];exact h
theorem B.add {a b:Int} (hx:ev1 s x=lit (.int .i64 a)) (hy:ev1 s y=lit (.int .i64 b)) (h:R64 (a+b)):Body P Y nb s ⟨dst,.binOp .add t x y u,ty,pos,af,gd⟩ (lit (.int .i64 (a+b))) [] []:=by
 refine B.bin hx hy ?_
 show qE (some (in64 (a+b),lit (.int .i64 (a+b))))=_
 have:in64 (a+b)=true:=decide_eq_true h
 rw[this];rfl
theorem B.sub {a b:Int} (hx:ev1 s x=lit (.int .i64 a)) (hy:ev1 s y=lit (.int .i64 b)) (h:R64 (a-b)):Body P Y nb s ⟨dst,.binOp .sub t x y u,ty,pos,af,gd⟩ (lit (.int .i64 (a-b))) [] []:=by
 refine B.bin hx hy ?_
 show qE (some (in64 (a-b),lit (.int .i64 (a-b))))=_
 have:in64 (a-b)=true:=decide_eq_true h
 rw[this];rfl
theorem B.mul {a b:Int} (hx:ev1 s x=lit (.int .i64 a)) (hy:ev1 s y=lit (.int .i64 b)) (h:R64 (a*b)):Body P Y nb s ⟨dst,.binOp .mul t x y u,ty,pos,af,gd⟩ (lit (.int .i64 (a*b))) [] []:=by
 refine B.bin hx hy ?_
 show qE (some (in64 (a*b),lit (.int .i64 (a*b))))=_
 have:in64 (a*b)=true:=decide_eq_true h
 rw[this];rfl
theorem B.quo {a b:Int} (hx:ev1 s x=lit (.int .i64 a)) (hy:ev1 s y=lit (.int .i64 b)) (h:b≠0∧R64 (a.tdiv b)):Body P Y nb s ⟨dst,.binOp .quo t x y u,ty,pos,af,gd⟩ (lit (.int .i64 (a.tdiv b))) [] []:=by
 refine B.bin hx hy ?_
 show qE (some (b != 0&&in64 (a.tdiv b),lit (.int .i64 (a.tdiv b))))=_
 have:in64 (a.tdiv b)=true:=decide_eq_true h.2
 have h0:(b != 0)=true:=by simpa using h.1
 rw[this,h0];rfl
theorem B.rem {a b:Int} (hx:ev1 s x=lit (.int .i64 a)) (hy:ev1 s y=lit (.int .i64 b)) (h:b≠0):Body P Y nb s ⟨dst,.binOp .rem t x y u,ty,pos,af,gd⟩ (lit (.int .i64 (a.tmod b))) [] []:=by
 refine B.bin hx hy ?_
 show qE (some (b != 0,lit (.int .i64 (a.tmod b))))=_
 have h0:(b != 0)=true:=by simpa using h
 rw[h0];rfl
section
variable {k:IntKind} {a b:Int}
theorem kk (k:IntKind):(if k=k then (some true:Option Bool) else none)=some true:=if_pos rfl
theorem B.lss (hx:ev1 s x=lit (.int k a)) (hy:ev1 s y=lit (.int k b)):Body P Y nb s ⟨dst,.binOp .lss t x y u,ty,pos,af,gd⟩ (lit (.bool (decide (a<b)))) [] []:=by
 refine B.bin hx hy ?_
 cases k<;>rfl
theorem B.leq (hx:ev1 s x=lit (.int k a)) (hy:ev1 s y=lit (.int k b)):Body P Y nb s ⟨dst,.binOp .leq t x y u,ty,pos,af,gd⟩ (lit (.bool (decide (a≤b)))) [] []:=by
 refine B.bin hx hy ?_
 cases k<;>rfl
theorem B.gtr (hx:ev1 s x=lit (.int k a)) (hy:ev1 s y=lit (.int k b)):Body P Y nb s ⟨dst,.binOp .gtr t x y u,ty,pos,af,gd⟩ (lit (.bool (decide (b<a)))) [] []:=by
 refine B.bin hx hy ?_
 cases k<;>rfl
theorem B.geq (hx:ev1 s x=lit (.int k a)) (hy:ev1 s y=lit (.int k b)):Body P Y nb s ⟨dst,.binOp .geq t x y u,ty,pos,af,gd⟩ (lit (.bool (decide (b≤a)))) [] []:=by
 refine B.bin hx hy ?_
 cases k<;>rfl
theorem B.eql (hx:ev1 s x=lit (.int k a)) (hy:ev1 s y=lit (.int k b)):Body P Y nb s ⟨dst,.binOp .eql t x y u,ty,pos,af,gd⟩ (lit (.bool (decide (a=b)))) [] []:=by
 refine B.bin hx hy ?_
 have:(a==b)=decide (a=b):=rfl
 cases k<;>rfl
theorem B.neq (hx:ev1 s x=lit (.int k a)) (hy:ev1 s y=lit (.int k b)):Body P Y nb s ⟨dst,.binOp .neq t x y u,ty,pos,af,gd⟩ (lit (.bool (decide (a≠b)))) [] []:=by
 refine B.bin hx hy ?_
 have:decide (a≠b)=(a != b):=by rw[Bool.eq_iff_iff];simp
 rw[this]
 cases k<;>rfl
end
section
variable {a b:ByteArray}
theorem toList_inj {a b:ByteArray}:a.toList=b.toList↔a=b:=by
 constructor
 ·intro h
  rw[ByteArray.toList_eq,ByteArray.toList_eq] at h
  exact ByteArray.ext (Array.toList_inj.1 h)
 ·rintro rfl;rfl
theorem B.seql (hx:ev1 s x=lit (.string a)) (hy:ev1 s y=lit (.string b)):Body P Y nb s ⟨dst,.binOp .eql t x y u,ty,pos,af,gd⟩ (lit (.bool (decide (a=b)))) [] []:=by
 refine B.bin hx hy ?_
 have:decide (a=b)=(a.toList==b.toList):=by rw[Bool.eq_iff_iff];simp[toList_inj]
 rw[this];rfl
theorem B.sneq (hx:ev1 s x=lit (.string a)) (hy:ev1 s y=lit (.string b)):Body P Y nb s ⟨dst,.binOp .neq t x y u,ty,pos,af,gd⟩ (lit (.bool (decide (a≠b)))) [] []:=by
 refine B.bin hx hy ?_
 have:decide (a≠b)=!(a.toList==b.toList):=by rw[Bool.eq_iff_iff];simp[toList_inj]
 rw[this];rfl
end
theorem B.not {b:Bool} (hx:ev1 s x=lit (.bool b)):Body P Y nb s ⟨dst,.unOp .not t x,ty,pos,af,gd⟩ (lit (.bool (!b))) [] []:=by
 refine B.pure (lo:=0) (nm:=0) (O0_ok P) ?_ ?_
 ·intro z hz
  have:z=x:=by simpa [Op.operands] using hz
  rw[this,hx];rfl
 ·show qE (unQ .not (evU (tmpsOf [x]) s x))=_
  rw[evU_own (by simp),hx];rfl
theorem B.neg {a:Int} (hx:ev1 s x=lit (.int .i64 a)) (h:R64 (0-a)):Body P Y nb s ⟨dst,.unOp .neg t x,ty,pos,af,gd⟩ (lit (.int .i64 (0-a))) [] []:=by
 refine B.pure (lo:=0) (nm:=0) (O0_ok P) ?_ ?_
 ·intro z hz
  have:z=x:=by simpa [Op.operands] using hz
  rw[this,hx];rfl
 ·show qE (unQ .neg (evU (tmpsOf [x]) s x))=_
  rw[evU_own (by simp),hx]
  show qE (some (in64 (0-a),lit (.int .i64 (0-a))))=_
  have:in64 (0-a)=true:=decide_eq_true h
  rw[this];rfl
theorem B.pick {c x y:Operand} {β x' y':Bool} {sx sy:Bool} (hc:ev1 s c=lit (.bool β)) (hrx:(evS s x).refs=[]) (hry:(evS s y).refs=[]) (hx:gdBool (ev1 s x)=some (sx,x')) (hy:gdBool (ev1 s y)=some (sy,y')) (h:(bif β then sx else sy)=true) :
  Body P Y nb s ⟨dst,.pick c x y,ty,pos,af,gd⟩ (lit (.bool (bif β then x' else y'))) [] []:=by
 refine B.pure (lo:=0) (nm:=0) (O0_ok P) ?_ ?_
 ·intro z hz
  have:z=c∨z=x∨z=y:=by simpa [Op.operands] using hz
  rcases this with rfl|rfl|rfl
  ·rw[hc];rfl
  ·unfold ev1;rw[refs_evD];exact hrx
  ·unfold ev1;rw[refs_evD];exact hry
 ·have e1:evU (tmpsOf [c,x,y]) s c=_:=(evU_own (by simp)).trans hc
  have e2:evU (tmpsOf [c,x,y]) s x=_:=evU_own (by simp)
  have e3:evU (tmpsOf [c,x,y]) s y=_:=evU_own (by simp)
  have hq:qv Y (.pick c x y) (evU (tmpsOf [c,x,y]) s) (lookM [])=some (true,lit (.bool (bif β then x' else y'))):=by
   simp only[qv,e1,e2,e3,lit,hx,hy,h]
  show (match effV Y 0 dst (.pick c x y) (evU (tmpsOf [c,x,y]) s) (lookM []) with|some ⟨true,v,m⟩=>some (v,m)|_=>none)=_
  have:effV Y 0 dst (.pick c x y) (evU (tmpsOf [c,x,y]) s) (lookM [])=liftQ (qv Y (.pick c x y) (evU (tmpsOf [c,x,y]) s) (lookM [])):=rfl
  rw[this,hq];rfl
theorem ev1_gd {c:Bool} {d:DV} (h:evS s x=.gd c d) (hc:c=true):ev1 s x=d:=by
 unfold ev1;rw[h,hc];rfl
theorem gdB {c b:Bool} (h:evS s x=.gd c (lit (.bool b))):gdBool (ev1 s x)=some (c,b):=by
 unfold ev1;rw[h];cases c<;>rfl
theorem pick_or (β:Bool):(bif β then true else (β==false))=true:=by cases β<;>rfl
theorem pick_and (β:Bool):(bif β then (β==true) else true)=true:=by cases β<;>rfl
theorem pick_or2 {c β:Bool} (h:c=true):(bif β then true else (c&&(β==false)))=true:=by subst h;cases β<;>rfl
theorem pick_and2 {c β:Bool} (h:c=true):(bif β then (c&&(β==true)) else true)=true:=by subst h;cases β<;>rfl
theorem B.idx {α:Type} {enc:α→List PV} {l:List α} {z:α} {i:Nat} {k:IntKind} {n:Int} {e:TypeId} {sz:Nat} (hx:ev1 s x=.pv (.slice (l.map enc))) (hy:ev1 s y=lit (.int k n))
  (und:Y.underlying t=some (.slice e)) (hs:szT Y e=some sz) (hsz:∀ a,(enc a).length=sz) (hn:n=(i:Int)) (hlt:i<l.length) :
  Body P Y nb s ⟨dst,.indexAddr t x y,ty,pos,af,gd⟩ (.pv (.box (enc (l.getD i z)))) [] []:=by
 refine B.pure (lo:=0) (nm:=0) (O0_ok P) ?_ ?_
 ·intro v hv
  have:v=x∨v=y:=by simpa [Op.operands] using hv
  rcases this with rfl|rfl
  ·rw[hx];rfl
  ·rw[hy];rfl
 ·show qE (indexAddrW Y t (lookM []) (evU (tmpsOf [x,y]) s x) (evU (tmpsOf [x,y]) s y))=_
  rw[evU_own (by simp),evU_own (by simp),hx,hy]
  show qE (indexAddrQ Y t (lookM []) (.pv (.slice (l.map enc))) (lit (.int k n)))=_
  unfold indexAddrQ lit
  rw[und]
  simp only[hs]
  have h1:decide (0≤n∧n<((l.map enc).length:Int))=true:=by
   refine decide_eq_true ⟨by omega,by rw[List.length_map];omega⟩
  have h2:allLen sz (l.map enc)=true:=by
   unfold allLen
   rw[List.all_eq_true]
   intro a ha
   obtain⟨b,_,rfl⟩:=List.mem_map.1 ha
   simpa using hsz b
  have h3:(l.map enc).getD n.toNat []=enc (l.getD i z):=by
   subst hn
   simp only[Int.toNat_natCast,List.getD_eq_getElem?_getD,List.getElem?_map,List.getElem?_eq_getElem hlt,Option.map_some,Option.getD_some]
  rw[h1,h2,h3];rfl
theorem B.loadP {p:PV} {cs:List PV} (hx:ev1 s x=.pv (.box (p::cs))) (ha:aggT Y t=some false) {n:Nat} (hs:szT Y t=some n):Body P Y nb s ⟨dst,.load t x,ty,pos,af,gd⟩ (.pv p) [] []:=by
 refine B.pure (lo:=0) (nm:=0) (O0_ok P) ?_ ?_
 ·intro z hz
  have:z=x:=by simpa [Op.operands] using hz
  rw[this,hx];rfl
 ·show qE (loadQ Y t (lookM []) (evU (tmpsOf [x]) s x))=_
  rw[evU_own (by simp),hx]
  unfold loadQ
  rw[ha,hs];rfl
theorem B.loadA {ds cs:List PV} (hx:ev1 s x=.pv (.box cs)) (ha:aggT Y t=some true) {n:Nat} (hs:szT Y t=some n) (hn:n≤cs.length) (hd:cs.take n=ds):Body P Y nb s ⟨dst,.load t x,ty,pos,af,gd⟩ (.pv (.agg ds)) [] []:=by
 refine B.pure (lo:=0) (nm:=0) (O0_ok P) ?_ ?_
 ·intro z hz
  have:z=x:=by simpa [Op.operands] using hz
  rw[this,hx];rfl
 ·show qE (loadQ Y t (lookM []) (evU (tmpsOf [x]) s x))=_
  rw[evU_own (by simp),hx]
  unfold loadQ
  rw[ha,hs]
  have:decide (n≤cs.length)=true:=decide_eq_true hn
  simp only[if_true,this,hd];rfl
def fadQ (Y:Tab) (t:TypeId) (f:Nat):Option Nat:=match fieldOf Y t f with
 | some fd=>match szT Y fd.type with
  | some (_+1)=>some fd.offset
  | _=>none
 | none=>none
theorem fadQ_spec {f off:Nat} (h:fadQ Y t f=some off):∃ fd n,fieldOf Y t f=some fd∧szT Y fd.type=some (n+1)∧fd.offset=off:=by
 unfold fadQ at h
 split at h
 ·rename_i fd hf
  split at h
  ·rename_i n hn;cases h;exact⟨fd,n,hf,hn,rfl⟩
  ·cases h
 ·cases h
theorem B.fadP {f off:Nat} {cs cs':List PV} (hx:ev1 s x=.pv (.box cs)) (hf:fadQ Y t f=some off) (hd:cs.drop off=cs'):Body P Y nb s ⟨dst,.fieldAddr t x f,ty,pos,af,gd⟩ (.pv (.box cs')) [] []:=by
 obtain⟨fd,n,h1,h2,rfl⟩:=fadQ_spec hf
 refine B.pure (lo:=0) (nm:=0) (O0_ok P) ?_ ?_
 ·intro z hz
  have:z=x:=by simpa [Op.operands] using hz
  rw[this,hx];rfl
 ·show qE (fieldAddrQ Y t f (lookM []) (evU (tmpsOf [x]) s x))=_
  rw[evU_own (by simp),hx]
  unfold fieldAddrQ
  simp only[h1,h2,hd];rfl
theorem B.fadB {f off h c c':Nat} (hx:ev1 s x=.bref h c) (hf:fadQ Y t f=some off) (hc:c+off=c'):Body P Y nb s ⟨dst,.fieldAddr t x f,ty,pos,af,gd⟩ (.bref h c') [] []:=by
 obtain⟨fd,n,h1,h2,rfl⟩:=fadQ_spec hf
 have e:evU (tmpsOf [x]) s x=.bref h c:=(evU_own (by simp)).trans hx
 refine .inl ⟨O0,[(h,.gone)],_,_,0,0,O0_ok P,?_,?_,?_,?_,Frz.refl _ _ _,rfl⟩
 ·show ledM s.ms ([x].flatMap fun x'=>(evU (tmpsOf [x]) s x').refs) (lvl (.fieldAddr t x f) (evU (tmpsOf [x]) s))=_
  simp only[List.flatMap_cons,List.flatMap_nil,List.append_nil,lvl,e,DV.refs,ledM,List.map_cons,List.map_nil]
 ·show rdM s.ms ([x].flatMap fun x'=>(evU (tmpsOf [x]) s x').refs) [(h,.gone)] (lvl (.fieldAddr t x f) (evU (tmpsOf [x]) s))=_
  simp only[List.flatMap_cons,List.flatMap_nil,List.append_nil,lvl,e,DV.refs,rdM]
 ·show (closedM [(h,.gone)]&&([x].flatMap fun x'=>(evU (tmpsOf [x]) s x').refs).all (hasM [(h,.gone)]))=true
  simp[e,DV.refs,closedM,MO.refs,hasM,lookM_cons]
 ·show qE (fieldAddrQ Y t f (lookM [(h,.gone)]) (evU (tmpsOf [x]) s x))=_
  rw[e]
  unfold fieldAddrQ
  simp only[h1,h2,hc];rfl
theorem ledB {h c:Nat} {T:TypeId} {ds:List DV} {ms:List (Nat×MO)} (hm:lookM ms h=some (.box T ds)) (hr:DV.refsL ds=[]):ledM ms (DV.bref h c).refs 1=[(h,.box T ds)]∧rdM ms (DV.bref h c).refs [(h,.box T ds)] 1=[h]:=by
 simp only[DV.refs,ledM,nearM,rdM,sel,hm,List.flatMap_cons,List.flatMap_nil,MO.refs,hr,List.append_nil,List.map_nil,List.map_cons,and_self]
theorem B.loadB {h c:Nat} {T:TypeId} {ds:List DV} {d:DV} (hx:ev1 s x=.bref h c) (hm:lookM s.ms h=some (.box T ds)) (hr:DV.refsL ds=[]) (ha:aggT Y t=some false) {n:Nat} (hs:szT Y t=some n) (hd:ds[c]? =some d) :
  Body P Y nb s ⟨dst,.load t x,ty,pos,af,gd⟩ d [] [h]:=by
 have e:evU (tmpsOf [x]) s x=.bref h c:=(evU_own (by simp)).trans hx
 have hc:c<ds.length:=(List.getElem?_eq_some_iff.1 hd).1
 refine .inl ⟨O0,[(h,.box T ds)],_,_,0,0,O0_ok P,?_,?_,?_,?_,Frz.refl _ _ _,rfl⟩
 ·show ledM s.ms ([x].flatMap fun x'=>(evU (tmpsOf [x]) s x').refs) 1=_
  simp only[List.flatMap_cons,List.flatMap_nil,List.append_nil,e];exact (ledB hm hr).1
 ·show rdM s.ms ([x].flatMap fun x'=>(evU (tmpsOf [x]) s x').refs) [(h,.box T ds)] 1=_
  simp only[List.flatMap_cons,List.flatMap_nil,List.append_nil,e];exact (ledB hm hr).2
 ·show (closedM [(h,.box T ds)]&&([x].flatMap fun x'=>(evU (tmpsOf [x]) s x').refs).all (hasM [(h,.box T ds)]))=true
  simp[e,DV.refs,closedM,MO.refs,hasM,lookM_cons,hr]
 ·show qE (loadQ Y t (lookM [(h,.box T ds)]) (evU (tmpsOf [x]) s x))=_
  rw[e]
  unfold loadQ
  rw[ha,hs]
  have:decide (c<ds.length)=true:=decide_eq_true hc
  have e2:lookM [(h,MO.box T ds)] h=some (.box T ds):=by rw[lookM_cons,if_pos rfl]
  simp only[e2,Bool.false_eq_true,if_false,this,List.getD_eq_getElem?_getD,hd,Option.getD_some];rfl
theorem B.loadBA {h c:Nat} {T:TypeId} {ds:List DV} {d:DV} (hx:ev1 s x=.bref h c) (hm:lookM s.ms h=some (.box T ds)) (hr:DV.refsL ds=[]) (ha:aggT Y t=some true) {n:Nat} (hs:szT Y t=some n) (hc:Nat.ble (c+n) ds.length=true) (hd:mkAgg ((ds.drop c).take n)=d) :
  Body P Y nb s ⟨dst,.load t x,ty,pos,af,gd⟩ d [] [h]:=by
 have e:evU (tmpsOf [x]) s x=.bref h c:=(evU_own (by simp)).trans hx
 refine .inl ⟨O0,[(h,.box T ds)],_,_,0,0,O0_ok P,?_,?_,?_,?_,Frz.refl _ _ _,rfl⟩
 ·show ledM s.ms ([x].flatMap fun x'=>(evU (tmpsOf [x]) s x').refs) 1=_
  simp only[List.flatMap_cons,List.flatMap_nil,List.append_nil,e];exact (ledB hm hr).1
 ·show rdM s.ms ([x].flatMap fun x'=>(evU (tmpsOf [x]) s x').refs) [(h,.box T ds)] 1=_
  simp only[List.flatMap_cons,List.flatMap_nil,List.append_nil,e];exact (ledB hm hr).2
 ·show (closedM [(h,.box T ds)]&&([x].flatMap fun x'=>(evU (tmpsOf [x]) s x').refs).all (hasM [(h,.box T ds)]))=true
  simp[e,DV.refs,closedM,MO.refs,hasM,lookM_cons,hr]
 ·show qE (loadQ Y t (lookM [(h,.box T ds)]) (evU (tmpsOf [x]) s x))=_
  rw[e]
  unfold loadQ
  rw[ha,hs]
  have:decide (c+n≤ds.length)=true:=decide_eq_true (Nat.le_of_ble_eq_true hc)
  have e2:lookM [(h,MO.box T ds)] h=some (.box T ds):=by rw[lookM_cons,if_pos rfl]
  simp only[e2,if_true,this,hd];rfl
theorem B.lenQ1 {a:PV} {d:DV} {at':TypeId} (hx:ev1 s x=.pv a) (h:lenQ Y at' (lookM []) (.pv a)=some (true,d)):Body P Y nb s ⟨dst,.call ⟨.builtin .len,⟨[x]⟩,⟨[at']⟩⟩,ty,pos,af,gd⟩ d [] []:=by
 refine B.pure (lo:=0) (nm:=0) (O0_ok P) ?_ ?_
 ·intro z hz
  have:z=x:=by simpa [Op.operands,Call.operands] using hz
  rw[this,hx];rfl
 ·have e:evU (tmpsOf [x]) s x=.pv a:=(evU_own (by simp)).trans hx
  show (match liftQ (lenQ Y at' (lookM []) (evU (tmpsOf [x]) s x)) with|some ⟨true,v,m⟩=>some (v,m)|_=>none)=_
  rw[e,h];rfl
theorem B.lenL {α:Type} {enc:α→List PV} {l:List α} {at' e:TypeId} (hx:ev1 s x=.pv (.slice (l.map enc))) (hu:Y.underlying at'=some (.slice e)):Body P Y nb s ⟨dst,.call ⟨.builtin .len,⟨[x]⟩,⟨[at']⟩⟩,ty,pos,af,gd⟩ (lit (.int .i64 (l.length:Int))) [] []:=by
 refine B.lenQ1 hx ?_
 unfold lenQ
 rw[hu]
 simp[lenOf]
theorem B.lenS {a:ByteArray} {at':TypeId} (hx:ev1 s x=lit (.string a)) (hu:Y.underlying at'=some .string):Body P Y nb s ⟨dst,.call ⟨.builtin .len,⟨[x]⟩,⟨[at']⟩⟩,ty,pos,af,gd⟩ (lit (.int .i64 (a.size:Int))) [] []:=by
 refine B.lenQ1 hx ?_
 unfold lenQ
 rw[hu]
theorem B.max {y:Operand} {k:IntKind} {a b:Int} {ats:Array TypeId} (hx:ev1 s x=lit (.int k a)) (hy:ev1 s y=lit (.int k b)):Body P Y nb s ⟨dst,.call ⟨.builtin .max,⟨[x,y]⟩,ats⟩,ty,pos,af,gd⟩ (lit (.int k (Max.max a b))) [] []:=by
 refine B.pure (lo:=0) (nm:=0) (O0_ok P) ?_ ?_
 ·intro z hz
  have:z=x∨z=y:=by simpa [Op.operands,Call.operands] using hz
  rcases this with rfl|rfl
  ·rw[hx];rfl
  ·rw[hy];rfl
 ·have e1:evU (tmpsOf [x,y]) s x=_:=(evU_own (by simp)).trans hx
  have e2:evU (tmpsOf [x,y]) s y=_:=(evU_own (by simp)).trans hy
  show (match liftQ (maxQ2 true [evU (tmpsOf [x,y]) s x,evU (tmpsOf [x,y]) s y]) with|some ⟨true,v,m⟩=>some (v,m)|_=>none)=_
  rw[e1,e2]
  have:(if a<b then b else a)=Max.max a b:=by rw[Int.max_def];split<;>split<;>omega
  simp only[maxQ2,lit,if_true,this,liftQ]
theorem B.min {y:Operand} {k:IntKind} {a b:Int} {ats:Array TypeId} (hx:ev1 s x=lit (.int k a)) (hy:ev1 s y=lit (.int k b)):Body P Y nb s ⟨dst,.call ⟨.builtin .min,⟨[x,y]⟩,ats⟩,ty,pos,af,gd⟩ (lit (.int k (Min.min a b))) [] []:=by
 refine B.pure (lo:=0) (nm:=0) (O0_ok P) ?_ ?_
 ·intro z hz
  have:z=x∨z=y:=by simpa [Op.operands,Call.operands] using hz
  rcases this with rfl|rfl
  ·rw[hx];rfl
  ·rw[hy];rfl
 ·have e1:evU (tmpsOf [x,y]) s x=_:=(evU_own (by simp)).trans hx
  have e2:evU (tmpsOf [x,y]) s y=_:=(evU_own (by simp)).trans hy
  show (match liftQ (maxQ2 false [evU (tmpsOf [x,y]) s x,evU (tmpsOf [x,y]) s y]) with|some ⟨true,v,m⟩=>some (v,m)|_=>none)=_
  rw[e1,e2]
  have:(if b<a then b else a)=Min.min a b:=by rw[Int.min_def];split<;>split<;>omega
  simp only[maxQ2,lit,if_true,Bool.false_eq_true,if_false,this,liftQ]
theorem B.slT {α:Type} {enc:α→List PV} {l:List α} {hi:Operand} {k:IntKind} {n:Int} {j:Nat} {e:TypeId} {sz:Nat} (hx:ev1 s x=.pv (.slice (l.map enc))) (hy:ev1 s hi=lit (.int k n)) (hu:Y.underlying t=some (.slice e)) (hs:szT Y e=some sz) (hn:n=(j:Int)) (hj:j≤l.length) :
  Body P Y nb s ⟨dst,.slice t x none (some hi) none,ty,pos,af,gd⟩ (.pv (.slice ((l.take j).map enc))) [] []:=by
 refine B.pure (lo:=0) (nm:=0) (O0_ok P) ?_ ?_
 ·intro z hz
  have:z=x∨z=hi:=by simpa [Op.operands] using hz
  rcases this with rfl|rfl
  ·rw[hx];rfl
  ·rw[hy];rfl
 ·have e1:evU (tmpsOf [x,hi]) s x=_:=(evU_own (by simp)).trans hx
  have e2:evU (tmpsOf [x,hi]) s hi=_:=(evU_own (by simp)).trans hy
  have hv:effV Y 0 dst (.slice t x none (some hi) none) (evU (tmpsOf [x,hi]) s) (lookM [])=liftQ (sliceW Y t (lookM []) (evU (tmpsOf [x,hi]) s x) none (some (evU (tmpsOf [x,hi]) s hi)) none):=rfl
  show (match effV Y 0 dst (.slice t x none (some hi) none) (evU (tmpsOf [x,hi]) s) (lookM []) with|some ⟨true,v,m⟩=>some (v,m)|_=>none)=_
  rw[hv,e1,e2]
  have hq:sliceW Y t (lookM []) (.pv (.slice (l.map enc))) none (some (lit (.int k n))) none=some (true,.pv (.slice ((l.take j).map enc))):=by
   show sliceQ Y t (lookM []) (.pv (.slice (l.map enc))) none (some (lit (.int k n))) none=_
   unfold sliceQ lit
   simp only[hu,bound,hs,Option.getD_some]
   subst hn
   have:decide (0≤(j:Int)∧(j:Int)≤((l.map enc).length:Int))=true:=decide_eq_true ⟨by omega,by rw[List.length_map];omega⟩
   rw[this,Int.toNat_natCast,List.map_take]
  rw[hq];rfl
end
noncomputable def bodyX (Y:Tab) (nb:Nat) (s:St) (o:Oper):Option (DV×List (Nat×MO)×List Nat):=
 let xs:=o.op.operands.toList
 let ev:=evU (tmpsOf xs) s
 let rs:=xs.flatMap fun x=>(ev x).refs
 let l:=ledM s.ms rs (lvl o.op ev)
 bif closedM l&&rs.all (hasM l) then
  match effX O0 Y (maxN s.ms nb) (nameOf nb s.ms o.dst) o ev l with
  | some (val,m)=>bif m.all (fun p=>hasM l p.1||!hasM s.ms p.1) then some (val,m,rdM s.ms rs l (lvl o.op ev)) else none
  | none=>none
 else none
theorem B.runZ {val0 val:DV} {m0 m:List (Nat×MO)} {rd:List Nat} (h:bodyX Y nb s o=some (val0,m0,rd)) (hz:∀ l,Frz l val0 m0 val m) (hk:m.map (·.1)=m0.map (·.1)):Body P Y nb s o val m rd:=by
 unfold bodyX at h
 simp only at h
 generalize hl:ledM s.ms (o.op.operands.toList.flatMap fun x=>(evU (tmpsOf o.op.operands.toList) s x).refs) (lvl o.op (evU (tmpsOf o.op.operands.toList) s))=l at h
 cases hq:(closedM l&&(o.op.operands.toList.flatMap fun x=>(evU (tmpsOf o.op.operands.toList) s x).refs).all (hasM l)) with
 | false=>rw[hq] at h;cases h
 | true=>
  rw[hq] at h
  simp only[cond_true] at h
  split at h
  ·rename_i v mm he
   cases hq2:(mm.all fun p=>hasM l p.1||!hasM s.ms p.1) with
   | false=>rw[hq2] at h;cases h
   | true=>
    rw[hq2] at h
    simp only[cond_true,Option.some.injEq,Prod.mk.injEq] at h
    obtain⟨e1,e2,hrd⟩:=h
    subst e1;subst e2
    refine .inl ⟨O0,l,_,_,_,_,O0_ok P,hl,hrd,hq,he,hz l,?_⟩
    rw[List.all_eq_true] at hq2 ⊢
    intro p hp
    have:p.1∈mm.map (·.1):=by rw[←hk];exact List.mem_map.2 ⟨p,hp,rfl⟩
    obtain⟨q,hq,e⟩:=List.mem_map.1 this
    rw[←e];exact hq2 q hq
  ·cases h
theorem B.run {val:DV} {m:List (Nat×MO)} {rd:List Nat} (h:bodyX Y nb s o=some (val,m,rd)):Body P Y nb s o val m rd:=
 B.runZ h (fun l=>Frz.refl l _ _) rfl
theorem Frz.arr (l:List (Nat×MO)) (h v sz:Nat) (T:TypeId) (es:List (List PV)):Frz l (.aref h v) [(h,.arr v sz T es)] (.pv (.slice es)) [(h,.farr v es)]:=by
 intro G w G1 w1 r M S
 have M1:=M.out S
 obtain⟨G2,S2⟩:=frz_stepped M1 (h:=h) (o:=.farr v es) (by simp[frzStep,upd,assocM])
 have S3:=S.trans M S2
 have e:mrg [(h,MO.farr v es)] [(h,MO.arr v sz T es)]=[(h,MO.farr v es)]:=by simp[mrg,assocM]
 rw[e] at S3
 refine⟨G2,{ S3 with hval:=?_,refs:=by simp[DV.refs] }⟩
 have hv:=RelDV.mono (G:=G1) S2.later.rd _ _ (fun k hk=>S2.keeps k (.arr v sz T es) (by
  simp only[DV.refs,List.mem_singleton] at hk;subst hk;simp[upd,assocM])) S.hval
 simp only[RelDV]
 exact pvOf_sound (d:=.aref h v) (look:=fun k=>if k=h then some (.farr v es) else none) (fun k m hk=>by
  split at hk
  ·rename_i e;subst e;cases hk;exact S2.hms _ _ (by simp)
  ·cases hk) (by simp[pvOf]) hv
theorem EfR.on {val:DV} {m:List (Nat×MO)} {rd:List Nat} (hg:gcond ops s o.guard=some true) (h:Body P Y nb s o val m rd):EfR P Y nb ops s o ⟨o.dst,val,m,rd⟩:=
 ⟨true,val,m,rd,hg,fun _=>h,.inl ⟨rfl,rfl⟩⟩
theorem EfR.off (hg:gcond ops s o.guard=some false):EfR P Y nb ops s o ⟨o.dst,.gd false (lit (.bool false)),[],[]⟩:=
 ⟨false,.dead,[],[],hg,fun h=>(by cases h),.inr (.inl ⟨rfl,rfl⟩)⟩
theorem EfR.sym {c:Bool} {val:DV} {rd:List Nat} (hg:gcond ops s o.guard=some c) (h:c=true→Body P Y nb s o val [] rd) (hr:refsIn s o val=true):EfR P Y nb ops s o ⟨o.dst,.gd c val,[],rd⟩:=
 ⟨c,val,[],rd,hg,h,.inr (.inr ⟨rfl,hr,rfl⟩)⟩
section
variable [TabOk P Y] {dr:Bool} {os:List Oper} {acc:List Ef} {Q:St→Prop} {dst:Option Tmp}
end
end
end Go.Lens
end
section
namespace Go.Lens
set_option linter.unusedSectionVars false
variable [Lz]
def byteAt (s:ByteArray) (i:Nat):Int:=((s.data.toList.getD i 0).toNat:Int)
section
variable {P:Program} {Y:Tab} {nb:Nat} {s:St} {ops:Array Oper} {o:Oper} {dst:Option Tmp} {ty u:TypeId} {pos:String} {af:Array Edge} {gd:Option (Nat×Bool)} {t:TypeId} {x y:Operand}
theorem B.sidx {a:ByteArray} {k:IntKind} {n:Int} {i:Nat} (hx:ev1 s x=lit (.string a)) (hy:ev1 s y=lit (.int k n)) (und:Y.underlying t=some .string) (hn:n=(i:Int)) (hlt:i<a.size) :
  Body P Y nb s ⟨dst,.index t x y,ty,pos,af,gd⟩ (lit (.int .u8 (byteAt a i))) [] []:=by
 refine B.pure (lo:=0) (nm:=0) (O0_ok P) ?_ ?_
 ·intro v hv
  have:v=x∨v=y:=by simpa [Op.operands] using hv
  rcases this with rfl|rfl
  ·rw[hx];rfl
  ·rw[hy];rfl
 ·show qE (indexQ Y t (evU (tmpsOf [x,y]) s x) (evU (tmpsOf [x,y]) s y))=_
  rw[evU_own (by simp),evU_own (by simp),hx,hy]
  unfold indexQ lit
  rw[und]
  subst hn
  have h1:decide (0≤(i:Int)∧(i:Int)<(a.size:Int))=true:=decide_eq_true ⟨by omega,by omega⟩
  simp only[h1,Int.toNat_natCast];rfl
theorem B.toI {k:IntKind} {a:Int} {t':TypeId} {d:TypeDesc} (hx:ev1 s x=lit (.int k a)) (hu:Y.underlying t=some d) (hu':Y.underlying t'=some (.int .i64)) (h:R64 a) (hs:s2bV Y t t' (lit (.int k a))=none) :
  Body P Y nb s ⟨dst,.convert t t' x,ty,pos,af,gd⟩ (lit (.int .i64 a)) [] []:=by
 refine B.pure (lo:=0) (nm:=0) (O0_ok P) ?_ ?_
 ·intro z hz
  have:z=x:=by simpa [Op.operands] using hz
  rw[this,hx];rfl
 ·have e1:evU (tmpsOf [x]) s x=_:=(evU_own (by simp)).trans hx
  show (match s2bV Y t t' (evU (tmpsOf [x]) s x) with|some ⟨true,v,m⟩=>some (v,m)|some _=>none|none=>qE (convW Y t t' (lookM []) (evU (tmpsOf [x]) s x)))=_
  rw[e1,hs]
  show qE (convQ Y t t' (lit (.int k a)))=_
  unfold convQ lit
  rw[hu,hu']
  have:in64 a=true:=decide_eq_true h
  simp only[wrapB,wrapN,this];rfl
theorem call_ops {f:Operand} {args:Array Operand} {ats:Array TypeId}:(Op.call ⟨.value f,args,ats⟩).operands.toList=f::args.toList:=by
 simp[Op.operands,Call.operands]
theorem tgtX_refs {d:DV} {fid:FuncId} {first caps:List DV} (h:tgtX d=some (fid,first,caps)):d.refs=DV.refsL first++DV.refsL caps:=by
 have hp:∀ ps:List PV,DV.refsL (ps.map .pv)=[]:=by
  intro ps
  induction ps with
  | nil=>rfl
  | cons p ps ih=>simp only[List.map_cons,DV.refsL,DV.refs,ih,List.append_nil]
 unfold tgtX at h
 split at h
 ·cases h;simp only[DV.refs,hp,List.append_nil]
 ·cases h;rfl
 ·cases h
theorem refsL_app (a b:List DV):DV.refsL (a++b)=DV.refsL a++DV.refsL b:=by
 induction a with
 | nil=>rfl
 | cons d a ih=>simp only[List.cons_append,DV.refsL,ih,List.append_assoc]
theorem B.call {f:Operand} {args:Array Operand} {ats:Array TypeId} {fid:FuncId} {first caps ds:List DV} {val:DV} (H:CallOk P fid ds (lookM []) val []) (hf:tgtX (ev1 s f)=some (fid,first,caps))
  (hds:first++args.toList.map (ev1 s)++caps=ds) (hr:DV.refsL ds=[]):Body P Y nb s ⟨dst,.call ⟨.value f,args,ats⟩,ty,pos,af,gd⟩ val [] []:=by
 have hr2:=hr
 rw[←hds,refsL_app,refsL_app] at hr2
 simp only[List.append_eq_nil_iff] at hr2
 obtain⟨⟨hr1,hr2⟩,hr3⟩:=hr2
 refine B.pure (lo:=0) (nm:=0) (one_ok H) ?_ ?_
 ·intro z hz
  rw[call_ops] at hz
  rcases List.mem_cons.1 hz with rfl|hz
  ·rw[tgtX_refs hf,hr1,hr3];rfl
  ·have:∀ (l:List DV),DV.refsL l=[]→∀ d∈l,d.refs=[]:=by
    intro l
    induction l with
    | nil=>intro _ d hd;cases hd
    | cons e l ih=>
     intro h d hd
     simp only[DV.refsL,List.append_eq_nil_iff] at h
     rcases List.mem_cons.1 hd with rfl|hd
     ·exact h.1
     ·exact ih h.2 d hd
   exact this _ hr2 _ (List.mem_map.2 ⟨z,hz,rfl⟩)
 ·show callE (one fid ds [] val []) 0 ⟨.value f,args,ats⟩ (evU (tmpsOf (Op.call ⟨.value f,args,ats⟩).operands.toList) s) []=_
  rw[call_ops]
  have e1:evU (tmpsOf (f::args.toList)) s f=ev1 s f:=evU_own (by simp)
  have e2:args.toList.map (evU (tmpsOf (f::args.toList)) s)=args.toList.map (ev1 s):=List.map_congr_left fun z hz=>evU_own (by simp[hz])
  unfold callE
  simp only[e1,hf,e2,hds,hr,one_eq];rfl
theorem ds1 {x1:Operand} {d1:DV} (h1:ev1 s x1=d1):([]:List DV)++([x1]:List Operand).map (ev1 s)++[]=[d1]:=by simp[h1]
theorem ds2 {x1 x2:Operand} {d1 d2:DV} (h1:ev1 s x1=d1) (h2:ev1 s x2=d2):([]:List DV)++([x1,x2]:List Operand).map (ev1 s)++[]=[d1,d2]:=by simp[h1,h2]
theorem Frz.nil {l:List (Nat×MO)} {h sz:Nat} {T:TypeId} (hl:lookM l h=none):Frz l .nils [] (.aref h 0) [(h,.arr 0 sz T [])]:=by
 intro G w G1 w1 r M S
 have hv:=S.hval
 simp only[RelDV] at hv
 refine⟨G1.turn h ⟨none,0,0,sz,0,0,true⟩,⟨⟨S.later.base,S.later.R0,S.later.R0c,S.later.R0m,S.later.os,S.later.tape,S.later.output,S.later.size,S.later.cold⟩,?_,?_,?_,?_,S.fresh,?_,?_,?_,S.newb,S.r0,S.r0m⟩⟩
 ·simp only[RelDV,Gh.turn,if_true]
  exact⟨Nat.le_refl _,fun _=>hv⟩
 ·intro k o hk
  simp only[List.mem_singleton,Prod.mk.injEq] at hk
  obtain⟨rfl,rfl⟩:=hk
  simp only[RelMO,Gh.turn,if_true]
  exact⟨trivial,trivial,trivial,rfl,Nat.le_refl _,(by simp),.inl ⟨trivial,trivial⟩⟩
 ·intro k o hk
  have hne:k≠h:=by rintro rfl;rw[hl] at hk;cases hk
  have:=S.keeps k o hk
  unfold Gh.keeps at this ⊢
  simp only[Gh.turn,hne,if_false];exact this
 ·intro k hk
  simp only[List.map_cons,List.map_nil,List.mem_singleton] at hk
  have:=S.old k (by simp)
  simp only[Gh.turn,hk,if_false];exact this
 ·intro b k hk
  rcases S.own b k hk with e|e
  ·simp at e
  ·exact .inr e
 ·intro k hk
  simp only[DV.refs,List.mem_singleton] at hk
  exact .inl (by simp[hk])
 ·intro k o hk k2 hh
  simp only[List.mem_singleton,Prod.mk.injEq] at hk
  obtain⟨rfl,rfl⟩:=hk
  simp[MO.refs] at hh
theorem B.adopt (h sz:Nat) (T:TypeId) (hx:ev1 s x=.nils) (hh:hasM s.ms h=false):Body P Y nb s ⟨dst,.assign x,ty,pos,af,gd⟩ (.aref h 0) [(h,.arr 0 sz T [])] []:=by
 refine B.of0 (val0:=.nils) (m0:=[]) (lo:=0) (nm:=0) (O0_ok P) ?_ ?_ (Frz.nil rfl) ?_
 ·intro z hz
  have:z=x:=by simpa [Op.operands] using hz
  rw[this,hx];rfl
 ·show mvE (evU (tmpsOf [x]) s x)=_
  rw[evU_own (by simp),hx];rfl
 ·simp[hh]
theorem B.append {α:Type} {enc:α→List PV} {l r:List α} {h v sz:Nat} {T:TypeId} {i:TypeInfo} {at1:TypeId} {d:Tmp} (hx:ev1 s x=.aref h v) (hm:lookM s.ms h=some (.arr v sz T (l.map enc))) (hy:ev1 s y=.pv (.slice (r.map enc)))
  (hu:Y.underlying at1=some (.slice T)) (hi:Y.info? T=some i) (hok:(Nat.blt 0 i.size&&i.zero.isSome&&Nat.beq (i.zero.getD default).cells.size i.size&&Nat.beq sz i.size)=true) (hsz:∀ a,(enc a).length=sz) {bs:Nat} (hbs:i.bytes=bs)
  (hlen:(l.length+r.length)*bs≤140737488355328∧l.length+r.length≤9223372036854775807) :
  Body P Y nb s ⟨some d,.call ⟨.builtin .append,⟨[x,y]⟩,⟨[at1,at1]⟩⟩,ty,pos,af,gd⟩ (.aref h (v+1)) [(h,.arr (v+1) sz T ((l++r).map enc))] [h]:=by
 subst hbs
 simp only[Bool.and_eq_true,Nat.beq_eq,Nat.blt_eq] at hok
 obtain⟨⟨⟨k1,k2⟩,k3⟩,k4⟩:=hok
 subst k4
 have e1:evU (tmpsOf [x,y]) s x=.aref h v:=(evU_own (by simp)).trans hx
 have e2:evU (tmpsOf [x,y]) s y=.pv (.slice (r.map enc)):=(evU_own (by simp)).trans hy
 have hrs:([x,y].flatMap fun x'=>(evU (tmpsOf [x,y]) s x').refs)=[h]:=by simp[e1,e2,DV.refs]
 have hsel:sel s.ms (reachX s.ms 10000 [h] [])=[(h,.arr v i.size T (l.map enc))]:=by
  have:reachX s.ms 10000 [h] []=[h]:=by
   show (bif ([]:List Nat).any (Nat.beq h) then _ else _)=_
   simp only[List.any_nil,cond_false,hm,MO.refs,List.nil_append];rfl
  rw[this];simp only[sel,hm]
 refine .inl ⟨O0,[(h,.arr v i.size T (l.map enc))],_,_,0,0,O0_ok P,?_,?_,?_,?_,Frz.refl _ _ _,?_⟩
 ·show ledM s.ms ([x,y].flatMap fun x'=>(evU (tmpsOf [x,y]) s x').refs) 2=_
  rw[hrs];exact hsel
 ·show rdM s.ms ([x,y].flatMap fun x'=>(evU (tmpsOf [x,y]) s x').refs) [(h,.arr v i.size T (l.map enc))] 2=_
  rw[hrs];rfl
 ·show (closedM [(h,.arr v i.size T (l.map enc))]&&([x,y].flatMap fun x'=>(evU (tmpsOf [x,y]) s x').refs).all (hasM [(h,.arr v i.size T (l.map enc))]))=true
  rw[hrs]
  simp[closedM,MO.refs,hasM,lookM_cons]
 ·have ha:appendV Y 0 at1 at1 (.aref h v) (.pv (.slice (r.map enc))) (lookM [(h,.arr v i.size T (l.map enc))]) (lookM [(h,.arr v i.size T (l.map enc))])=some ⟨true,.aref h (v+1),[(h,.arr (v+1) i.size T ((l++r).map enc))]⟩:=by
   unfold appendV
   have hl:lookM [(h,MO.arr v i.size T (l.map enc))] h=some (.arr v i.size T (l.map enc)):=by rw[lookM_cons,if_pos rfl]
   have hs:srcOf Y at1 at1 i (lookM [(h,.arr v i.size T (l.map enc))]) (.aref h v) (.pv (.slice (r.map enc)))=some (r.map enc):=by
    unfold srcOf;simp[conts]
   have hq:(decide (0<i.size)&&i.zero.isSome&&decide ((i.zero.getD default).cells.size=i.size))=true:=by
    simp only[Bool.and_eq_true,decide_eq_true_eq];exact⟨⟨k1,k2⟩,k3⟩
   have hal:allLen i.size (r.map enc)=true:=by
    unfold allLen
    rw[List.all_eq_true]
    intro a ha
    obtain⟨b,_,rfl⟩:=List.mem_map.1 ha
    simpa using hsz b
   have hle:decide (((l.map enc).length+(r.map enc).length)*i.bytes≤140737488355328∧(l.map enc).length+(r.map enc).length≤9223372036854775807)=true:=by
    simp only[List.length_map];exact decide_eq_true hlen
   simp only[hu,hi,hs,hq,hl,if_true,and_self,hal,hle,Bool.and_self,List.map_append]
  have hv:effV Y 0 (some d) (.call ⟨.builtin .append,⟨[x,y]⟩,⟨[at1,at1]⟩⟩) (evU (tmpsOf [x,y]) s) (lookM [(h,.arr v i.size T (l.map enc))])=some ⟨true,.aref h (v+1),[(h,.arr (v+1) i.size T ((l++r).map enc))]⟩:=by
   show (match truncU _ (evU (tmpsOf [x,y]) s x) with|some (d',h',m)=>_|none=>appendV Y 0 at1 at1 (evU (tmpsOf [x,y]) s x) (evU (tmpsOf [x,y]) s y) _ _)=_
   rw[e1,e2]
   exact ha
  show (match effV Y 0 (some d) (.call ⟨.builtin .append,⟨[x,y]⟩,⟨[at1,at1]⟩⟩) (evU (tmpsOf [x,y]) s) (lookM [(h,.arr v i.size T (l.map enc))]) with|some ⟨true,v,m⟩=>some (v,m)|_=>none)=_
  rw[hv]
 ·simp[hasM,lookM_cons]
end
section
variable {P:Program} {n nb:Nat} {Q:Exit→St→Prop} {K:List Fr} {c x y:Code} {s:St}
theorem TK.condP {o:Operand} {p:Prop} [Decidable p] (hc:evS s o=lit (.bool (decide p))) (hx:p→TK P n nb Q x K s) (hy:¬p→TK P n nb Q y K s):TK P n nb Q (.cond o x y) K s:=
 TK.cond hc (fun h=>hx (of_decide_eq_true h)) (fun h=>hy (of_decide_eq_false h))
end
def Post (Y:Tab) (F:FnI) (lo:Nat) (val:DV) (e:Exit) (s:St):Prop:=(e=.normal∨e=.ret)∧∃ v ms,closeX Y F lo [] s=some (v,ms)∧v=val∧ms=[]
theorem leaf {Y:Tab} {F:FnI} {lo:Nat} {val:DV} {s:St} {val0:DV} (h:closeX Y F lo [] s=some (val0,[])) (hv:val0=val):Post Y F lo val .ret s:=⟨.inr rfl,val0,[],h,hv,rfl⟩
theorem CallR.ok {P:Program} {f:FuncId} {ds:List DV} {look:Nat→Option MO} {val:DV} {ms:List (Nat×MO)} (h:CallR P f ds look fun v m=>v=val∧m=ms):CallOk P f ds look val ms:=
 ⟨h.refs,fun G w vs M hv=>(h.call G w vs M hv).mono fun r w' ⟨v,m,G',⟨e1,e2⟩,S⟩=>⟨G',by rw[←e1,←e2];exact S⟩⟩
theorem callOk_of {P:Program} {Y:Tab} [TabOk P Y] {F:FnI} {f:FuncId} {fn:Func} {c:Code} (hf:P.funcs[f]? =some fn) (hb:fn.body=some c) (hn:fn.ntmps=F.n) (hr:fn.results=F.res) (he:∀ args w,(callFunc f args).run P w=.ok (.enter f args) w)
  {ds:List DV} {val:DV} (hl:ds.length≤F.n) (hrf:DV.refsL ds=[])
  (h:TK P F.n 1 (Post Y F 1 val) c [] ⟨zipT 0 ds,[]⟩):CallOk P f ds (lookM []) val []:=by
 refine CallR.ok (CallR.of (Y:=Y) (F:=F) (lo:=1) hf hb hn hr he hl (fun h hh=>by rw[hrf] at hh;cases hh) (fun h o e=>by cases e) (T.mono h ?_))
 rintro e s' ⟨h1,v,ms,h2,h3,h4⟩
 exact⟨h1,v,ms,h2,h3,h4⟩
end Go.Lens
end
section
namespace Go.Lens
set_option linter.unusedSectionVars false
variable [Lz]
theorem wk_frz {nb:Nat} {s:St} {t h:Nat} {d:DV} {o:MO} {p:PV} (ht:getT s.tm t=d) (hd:d≠.dead) (hf:frzStep (lookM s.ms) h=some o) (hp:pvOf (lookM [(h,o)]) d=some p):Wk nb s ⟨(t,.pv p)::s.tm,(h,o)::s.ms⟩:=by
 intro G a w I
 obtain⟨G1,S1⟩:=frz_stepped I.mem hf
 obtain⟨I1,Sn1⟩:=I.eff (K:=nb) S1 none (by simp)
 have I2:Inv G1 (St.vw ⟨s.tm,(h,o)::s.ms⟩) a w:=I1
 refine⟨G1,?_,Sn1⟩
 have hts:t<a.tmps.size:=by
  rcases Nat.lt_or_ge t a.tmps.size with h|h
  ·exact h
  ·exact absurd (ht.symm.trans (I.size t h)) hd
 have hv:RelDV G1 (G1.rd w) d (a.tmps.getD t undef):=by
  have:=I2.ts t
  have e:(St.vw ⟨s.tm,(h,o)::s.ms⟩).get t=d:=ht
  rw[e] at this;exact this
 have hpv:RelPV (G1.rd w) p (a.tmps.getD t undef):=by
  refine pvOf_sound (look:=lookM [(h,o)]) (fun k m hk=>?_) hp hv
  rw[lookM_cons] at hk
  split at hk
  ·rename_i e;subst e;cases hk;exact S1.hms _ _ (by simp)
  ·cases hk
 refine⟨fun u=>?_,fun u hu=>?_,I2.ms,I2.fresh,I2.own,fun u k hk=>?_,I2.refsM,I2.r0,I2.r0m,I2.baseLe,I2.laid⟩
 ·show RelDV _ _ (getT ((t,.pv p)::s.tm) u) _
  rw[getT_cons]
  split
  ·rename_i e;subst e;simp only[RelDV];exact hpv
  ·exact I2.ts u
 ·show getT ((t,.pv p)::s.tm) u=.dead
  rw[getT_cons,if_neg (by omega)]
  exact I2.size u hu
 ·have hk':k∈(getT ((t,.pv p)::s.tm) u).refs:=hk
  rw[getT_cons] at hk'
  split at hk'
  ·simp[DV.refs] at hk'
  ·exact I2.refsT u k hk'
section
variable {P:Program} {Y:Tab} {n nb:Nat} {Q:Exit→St→Prop} {K:List Fr} {c:Code} {s:St}
theorem TK.frz {t h v sz:Nat} {T0:TypeId} {es:List (List PV)} (ht:getT s.tm t=.aref h v) (hm:lookM s.ms h=some (.arr v sz T0 es)) (k:TK P n nb Q c K ⟨(t,.pv (.slice es))::s.tm,(h,.farr v es)::s.ms⟩):TK P n nb Q c K s:=
 T.weak (wk_frz ht (by simp) (by unfold frzStep;rw[hm]) (by simp[pvOf,lookM_cons])) k
end
section
variable {P:Program} {Y:Tab} {nb:Nat} {s:St} {ops:Array Oper} {o:Oper} {dst:Option Tmp} {ty u:TypeId} {pos:String} {af:Array Edge} {gd:Option (Nat×Bool)} {t:TypeId} {x y:Operand}
theorem Frz.nilS (l:List (Nat×MO)):Frz l .nils [] (.pv (.slice [])) []:=by
 intro G w G1 w1 r M S
 have hv:=S.hval
 simp only[RelDV] at hv
 refine⟨G1,{ S with hval:=?_,refs:=by simp[DV.refs] }⟩
 simp only[RelDV,RelPV]
 exact⟨none,0,by rw[hv];rfl,Nat.le_refl _,.inl trivial⟩
theorem B.nilS {α:Type} {enc:α→List PV} (hx:ev1 s x=.nils):Body P Y nb s ⟨dst,.assign x,ty,pos,af,gd⟩ (.pv (.slice (List.map enc []))) [] []:=by
 refine B.of0 (val0:=.nils) (m0:=[]) (lo:=0) (nm:=0) (O0_ok P) ?_ ?_ (Frz.nilS _) rfl
 ·intro z hz
  have:z=x:=by simpa [Op.operands] using hz
  rw[this,hx];rfl
 ·show mvE (evU (tmpsOf [x]) s x)=_
  rw[evU_own (by simp),hx];rfl
theorem B.quoN {a b:Int} (hx:ev1 s x=lit (.int .i64 a)) (hy:ev1 s y=lit (.int .i64 b)) (ha:0≤a) (hb:0<b) (h:R64 (a / b)):Body P Y nb s ⟨dst,.binOp .quo t x y u,ty,pos,af,gd⟩ (lit (.int .i64 (a / b))) [] []:=by
 have e:a.tdiv b=a / b:=Int.tdiv_eq_ediv_of_nonneg ha
 have:=B.quo (P:=P) (Y:=Y) (nb:=nb) (dst:=dst) (ty:=ty) (u:=u) (pos:=pos) (af:=af) (gd:=gd) (t:=t) hx hy ⟨by omega,by rw[e];exact h⟩
 rw[e] at this;exact this
theorem B.rangeS {a:ByteArray} {d h:Nat} (hx:ev1 s x=lit (.string a)) (und:Y.underlying t=some .string) (hh:nameOf nb s.ms (some d)=h) (hm:hasM s.ms h=false) :
  Body P Y nb s ⟨some d,.range t x,ty,pos,af,gd⟩ (.bref h 0) [(h,.siter a 0)] []:=by
 refine B.of0 (val0:=.bref h 0) (m0:=[(h,.siter a 0)]) (lo:=0) (nm:=h) (O0_ok P) ?_ ?_ (Frz.refl _ _ _) ?_
 ·intro z hz
  have:z=x:=by simpa [Op.operands] using hz
  rw[this,hx];rfl
 ·have e1:evU (tmpsOf [x]) s x=_:=(evU_own (by simp)).trans hx
  have hv:effV Y h (some d) (.range t x) (evU (tmpsOf [x]) s) (lookM [])=rangeV Y h t (evU (tmpsOf [x]) s x) (lookM []):=rfl
  show (match effV Y h (some d) (.range t x) (evU (tmpsOf [x]) s) (lookM []) with|some ⟨true,v,m⟩=>some (v,m)|_=>none)=_
  rw[hv,e1]
  unfold rangeV lit
  rw[und];rfl
 ·simp[hm]
theorem led1 {h:Nat} {mo:MO} {ms:List (Nat×MO)} (hm:lookM ms h=some mo) (hr:mo.refs=[]):sel ms (reachX ms 10000 [h] [])=[(h,mo)]:=by
 have:reachX ms 10000 [h] []=[h]:=by
  show (bif ([]:List Nat).any (Nat.beq h) then _ else _)=_
  simp only[List.any_nil,cond_false,hm,hr,List.nil_append];rfl
 rw[this];simp only[sel,hm]
theorem B.next {a:ByteArray} {h p:Nat} {val:DV} {m:List (Nat×MO)} (hx:ev1 s x=.bref h 0) (hm:lookM s.ms h=some (.siter a p)) (hn:nextV (.bref h 0) true (lookM [(h,.siter a p)])=some ⟨true,val,m⟩) (hmm:m.map (·.1)=[h]∨m=[]) :
  Body P Y nb s ⟨dst,.next x true,ty,pos,af,gd⟩ val m [h]:=by
 have e1:evU (tmpsOf [x]) s x=.bref h 0:=(evU_own (by simp)).trans hx
 have hrs:([x].flatMap fun x'=>(evU (tmpsOf [x]) s x').refs)=[h]:=by simp[e1,DV.refs]
 refine .inl ⟨O0,[(h,.siter a p)],_,_,0,0,O0_ok P,?_,?_,?_,?_,Frz.refl _ _ _,?_⟩
 ·show ledM s.ms ([x].flatMap fun x'=>(evU (tmpsOf [x]) s x').refs) 2=_
  rw[hrs];exact led1 hm rfl
 ·show rdM s.ms ([x].flatMap fun x'=>(evU (tmpsOf [x]) s x').refs) [(h,.siter a p)] 2=_
  rw[hrs];rfl
 ·show (closedM [(h,.siter a p)]&&([x].flatMap fun x'=>(evU (tmpsOf [x]) s x').refs).all (hasM [(h,.siter a p)]))=true
  rw[hrs]
  simp[closedM,MO.refs,hasM,lookM_cons]
 ·have hv:effV Y 0 dst (.next x true) (evU (tmpsOf [x]) s) (lookM [(h,.siter a p)])=nextV (evU (tmpsOf [x]) s x) true (lookM [(h,.siter a p)]):=by cases dst<;>rfl
  show (match effV Y 0 dst (.next x true) (evU (tmpsOf [x]) s) (lookM [(h,.siter a p)]) with|some ⟨true,v,m⟩=>some (v,m)|_=>none)=_
  rw[hv,e1,hn]
 ·rcases hmm with e|rfl
  ·rw[List.all_eq_true]
   intro q hq
   have:q.1∈m.map (·.1):=List.mem_map.2 ⟨q,hq,rfl⟩
   rw[e] at this
   simp only[List.mem_singleton] at this
   simp[this,hasM,lookM_cons]
  ·rfl
theorem RG.next [TabOk P Y] {dr:Bool} {os:List Oper} {acc:List Ef} {Q:St→Prop} {a:ByteArray} {h p:Nat} (hg:gcond ops s gd=some true) (hx:ev1 s x=.bref h 0) (hm:lookM s.ms h=some (.siter a p))
  (hT:p<a.size→RG P Y nb ops dr os (stp s ⟨dst,.tup [lit (.bool true),lit (.int .i64 (p:Int)),lit (.int .i32 (Utf8.decode a p).1)],[(h,.siter a (p+(Utf8.decode a p).2))],[h]⟩) (acc++[⟨dst,.tup [lit (.bool true),lit (.int .i64 (p:Int)),lit (.int .i32 (Utf8.decode a p).1)],[(h,.siter a (p+(Utf8.decode a p).2))],[h]⟩]) Q)
  (hF:¬p<a.size→RG P Y nb ops dr os (stp s ⟨dst,.tup [lit (.bool false)],[],[h]⟩) (acc++[⟨dst,.tup [lit (.bool false)],[],[h]⟩]) Q) :
  RG P Y nb ops dr (⟨dst,.next x true,ty,pos,af,gd⟩::os) s acc Q:=by
 by_cases hlt:p<a.size
 ·refine RG.cons (EfR.on hg (B.next hx hm ?_ (.inl rfl))) (hT hlt)
  unfold nextV
  have:Nat.blt p a.size=true:=by rw[Nat.blt_eq];exact hlt
  simp[lookM_cons,this]
 ·refine RG.cons (EfR.on hg (B.next hx hm ?_ (.inr rfl))) (hF hlt)
  unfold nextV
  have:Nat.blt p a.size=false:=Bool.eq_false_iff.mpr fun h=>hlt (by rwa [Nat.blt_eq] at h)
  simp[lookM_cons,this]
end
end Go.Lens
end
section
namespace Go.Lens
set_option linter.unusedSectionVars false
variable [Lz]
def bsO (l:List UInt8):ByteArray:=⟨⟨l⟩⟩
abbrev KV:=List (List UInt8×Value)
def mkEs:Nat→KV→List MapEntry
 | _,[]=>[]
 | i,(k,v)::l=>{ key:=.string (bsO k),val:=v,born:=i }::mkEs (i+1) l
def mapO (kv:KV):Obj:=.map (mkEs 0 kv).toArray kv.length
def setKV (k:List UInt8) (v:Value):KV→KV
 | []=>[(k,v)]
 | (a,x)::l=>if k=a then (a,v)::l else (a,x)::setKV k v l
def findKV (k:List UInt8):Nat→KV→Option (Nat×Value)
 | _,[]=>none
 | j,(a,x)::l=>if k=a then some (j,x) else findKV k (j+1) l
def getKV (k:List UInt8):KV→Option Value
 | []=>none
 | (a,x)::l=>if k=a then some x else getKV k l
theorem bsO_inj {a b:List UInt8}:bsO a=bsO b↔a=b:=by
 constructor
 ·intro h;have:=congrArg (fun x:ByteArray=>x.data.toList) h;simpa [bsO] using this
 ·rintro rfl;rfl
theorem bsO_beq (a b:List UInt8):(bsO a==bsO b)=decide (a=b):=by
 rw[Bool.eq_iff_iff,MapKept.bytes_beq,bsO_inj,decide_eq_true_eq]
theorem mkEs_length:∀ (i:Nat) (kv:KV),(mkEs i kv).length=kv.length
 | _,[]=>rfl
 | i,(k,v)::l=>by simp[mkEs,mkEs_length (i+1) l]
theorem mkEs_get:∀ (kv:KV) (i j:Nat),(mkEs i kv)[j]? =(kv[j]?).map fun p=>{ key:=.string (bsO p.1),val:=p.2,born:=i+j }
 | [],i,j=>by simp[mkEs]
 | (k,v)::l,i,0=>by simp[mkEs]
 | (k,v)::l,i,j+1=>by simp[mkEs,mkEs_get l (i+1) j];congr 1;funext p;simp;omega
theorem findNow_mk (k:List UInt8):∀ (kv:KV) (i j:Nat),Instr.findNow .string (.string (bsO k)) (mkEs i kv) j=some (findKV k j kv)
 | [],_,_=>rfl
 | (a,x)::l,i,j=>by
  simp only[mkEs,Instr.findNow,Instr.sameNow,bsO_beq,findKV]
  by_cases h:k=a
  ·simp[h]
  ·simp[h,findNow_mk k l (i+1) (j+1)]
theorem findKV_get (k:List UInt8):∀ (kv:KV) (j:Nat),(findKV k j kv).map (·.2)=getKV k kv
 | [],_=>rfl
 | (a,x)::l,j=>by
  simp only[findKV,getKV]
  split
  ·rfl
  ·exact findKV_get k l (j+1)
theorem set_none (k:List UInt8) (v:Value):∀ (kv:KV) (i j:Nat),findKV k j kv=none→mkEs i kv++[{ key:=.string (bsO k),val:=v,born:=i+kv.length }]=mkEs i (setKV k v kv)∧(setKV k v kv).length=kv.length+1
 | [],i,j,_=>by simp[mkEs,setKV]
 | (a,x)::l,i,j,h=>by
  simp only[findKV] at h
  split at h
  ·cases h
  ·rename_i hne
   obtain⟨h1,h2⟩:=set_none k v l (i+1) (j+1) h
   simp only[setKV,hne,if_false,mkEs,List.cons_append,List.length_cons,h2,←h1]
   refine⟨?_,trivial⟩
   rw[show i+(l.length+1)=i+1+l.length by omega]
theorem set_some (k:List UInt8) (v:Value):∀ (kv:KV) (i j:Nat) (m:Nat) (x:Value),findKV k j kv=some (m,x)→j≤m∧m-j<kv.length∧((mkEs i kv)[m-j]?).map (·.key)=some (.string (bsO k))∧
   (mkEs i kv).modify (m-j) (fun e=>{ e with key:=.string (bsO k),val:=v })=mkEs i (setKV k v kv)∧(setKV k v kv).length=kv.length
 | [],i,j,m,x,h=>by cases h
 | (a,y)::l,i,j,m,x,h=>by
  simp only[findKV] at h
  split at h
  ·rename_i hq
   subst hq
   cases h
   simp[mkEs,setKV]
  ·rename_i hne
   obtain⟨h1,h2,h3,h4,h5⟩:=set_some k v l (i+1) (j+1) m x h
   have e:m-j=m-(j+1)+1:=by omega
   refine⟨by omega,by simp only[List.length_cons];omega,?_,?_,?_⟩
   ·rw[e];simpa [mkEs] using h3
   ·rw[e];simp only[mkEs,setKV,hne,if_false,List.modify_succ_cons,h4]
   ·simp[setKV,hne,h5]
section
variable {P:Program} {Y:Tab} [TabOk P Y] {nb:Nat} {s:St} {o:Oper} {val:DV} {m:List (Nat×MO)} {rd:List Nat}
theorem hasM_none {ms:List (Nat×MO)} {h:Nat} (e:hasM ms h=false):lookM ms h=none:=by
 unfold hasM at e
 cases hq:lookM ms h with
 | none=>rfl
 | some o=>rw[hq] at e;cases e
theorem ev1_agree {σ:St} {xs:List Operand} (h:∀ t∈tmpsOf xs,getT σ.tm t=getT s.tm t) {x:Operand} (hx:x∈xs):ev1 σ x=ev1 s x:=by
 unfold ev1
 cases x with
 | tmp t=>simp only[evS];rw[h t (tmpsOf_mem hx)]
 | _=>rfl
theorem ev1_sound {G:Gh} {a:Act} {w:World} (I:Inv G s.vw a w) (x:Operand):RelDV G (G.rd w) (ev1 s x) (a.eval x):=RelDV_evD (evS_sound I x)
theorem SBody.of (H:∀ (σ:St) (G:Gh) (a:Act) (w:World),(∀ x∈o.op.operands.toList,RelDV G (G.rd w) (ev1 s x) (a.eval x))→(∀ h,(h∈rd∨h∈m.map (·.1))→lookM σ.ms h=lookM s.ms h)→Inv G σ.vw a w→
  ∃ r w' G',((execOp a.eval o).run P w=.ok (.value r) w'∨(execOp a.eval o).run P w=.ok .skip w'∧r=undef)∧Stepped G w (lookM σ.ms) val m G' w' r):SBody P s o val m rd:=by
 intro σ G a w next Q h1 h2 I hn
 obtain⟨r,w',G',hrun,S⟩:=H σ G a w (fun x hx=>by rw[←ev1_agree h1 hx];exact ev1_sound I x) h2 I
 have:=hn r w' G' S
 unfold Oper.wp
 rcases hrun with hrun|⟨hrun,rfl⟩
 ·rw[hrun];exact this
 ·rw[hrun];exact this
variable {dst:Option Tmp} {ty:TypeId} {pos:String} {af:Array Edge} {gd:Option (Nat×Bool)} {t:TypeId} {x y z:Operand}
theorem Gh.turn_self (G:Gh) (h:Nat):G.turn h (G.ρ h)=G:=by
 unfold Gh.turn
 congr
 funext k
 split
 ·rename_i e;rw[e]
 ·rfl
theorem B.newMap {d h:Nat} (hh:nameOf nb s.ms (some d)=h) (hm:hasM s.ms h=false):Body P Y nb s ⟨some d,.makeMap t none,ty,pos,af,gd⟩ (.mref h) [(h,.obj (mapO []))] []:=by
 refine .inr (SBody.of fun σ G a w _ hl I=>?_)
 have hl':lookM σ.ms h=none:=(hl h (.inr (by simp))).trans (hasM_none hm)
 refine⟨.map (some w.heap.size),w.alloc (.map #[] 0),_,.inl (by simp[execOp,Instr.makeMap]),stepped_new (B:={ map:=w.heap.size }) I.fresh hl' ?_ ?_ (by simp[DV.refs]) (by simp[MO.refs])⟩
 ·simp[RelDV,Gh.new]
 ·simp only[RelMO]
  exact⟨by simp[Gh.new],by simp[Gh.new],by simp only[Gh.new,if_true];exact heap_alloc_new w _⟩
theorem keyStays (k:List UInt8) (w:World):(Instr.keyThatStays (.string (bsO k)) (.string (bsO k))).run P w=.ok (.string (bsO k)) w:=
 MapKept.run_keyThatStays (d:=.string) (by simp[MapKept.IsKey])
theorem run_getMapO {w:World} {r:Nat} {kv:KV} (e:w.heap[r]? =some (mapO kv)):(getObj r).run P w=.ok (mapO kv) w:=MapKept.run_getObj_map e
theorem run_setMapO {w:World} {r:Nat} {kv:KV} (e:w.heap[r]? =some (mapO kv)) (o:Obj):(setObj r o).run P w=.ok () { w with heap:=w.heap.setIfInBounds r o }:=MapKept.run_setObj_map o e
theorem B.setMap {h:Nat} {kv:KV} {k:List UInt8} {v:Value} {kt et:TypeId} (hx:ev1 s x=.mref h) (hy:ev1 s y=lit (.string (bsO k))) (hz:ev1 s z=lit v) (hl:lookM s.ms h=some (.obj (mapO kv)))
  (und:Y.underlying t=some (.map kt et)) (uk:Y.underlying kt=some .string) :
  Body P Y nb s ⟨none,.mapUpdate t x y z,ty,pos,af,gd⟩ .dead [(h,.obj (mapO (setKV k v kv)))] [h]:=by
 refine .inr (SBody.of fun σ G a w hv hl2 I=>?_)
 have hX:=hv x (by simp[Op.operands])
 have hY:=hv y (by simp[Op.operands])
 have hZ:=hv z (by simp[Op.operands])
 rw[hx] at hX;rw[hy] at hY;rw[hz] at hZ
 simp only[RelDV] at hX
 have hY':=(RelDV_lit_eq hY).1
 have hZ':=(RelDV_lit_eq hZ).1
 have hlk:lookM σ.ms h=some (.obj (mapO kv)):=by rw[hl2 h (.inl (by simp))];exact hl
 obtain⟨k1,e1,e2⟩:=I.ms _ _ hlk
 have hgo:(getObj (G.ρ h).map).run P w=.ok (mapO kv) w:=run_getMapO e2
 have hck:(Instr.checkKey false 10000 kt (.string (bsO k))).run P w=.ok () w:=checkKey_string uk 9999 false _
 have hfk:(Instr.findKey kt (.string (bsO k)) (mkEs 0 kv)).run P w=.ok (findKV k 0 kv) w:=by
  simp only[Instr.findKey,Sem.run_bind,run_und uk,Result.andThen_ok,findNow_mk,Sem.run_pure]
 have hset:∀ o:Obj,(setObj (G.ρ h).map o).run P w=.ok () { w with heap:=w.heap.setIfInBounds (G.ρ h).map o }:=run_setMapO e2
 have hrun:(Instr.mapUpdate t (.map (some (G.ρ h).map)) (.string (bsO k)) v).run P w=.ok () { w with heap:=w.heap.setIfInBounds (G.ρ h).map (mapO (setKV k v kv)) }:=by
  unfold mapO at hgo ⊢
  simp only[Instr.mapUpdate,Sem.run_bind,run_und und,Result.andThen_ok,hgo,hck,hfk]
  cases hf:findKV k 0 kv with
  | none=>
   obtain⟨h1,h2⟩:=set_none k v kv 0 0 hf
   simp only[hset]
   rw[←h1,h2]
   simp
  | some p=>
   obtain⟨i,x0⟩:=p
   obtain⟨_,_,h3,h4,h5⟩:=set_some k v kv 0 0 i x0 hf
   simp only[Nat.sub_zero] at h3 h4
   have hkey:((((mkEs 0 kv).toArray[i]?).map (·.key)).getD (.string (bsO k)))=.string (bsO k):=by
    rw[List.getElem?_toArray,h3];rfl
   simp only[Sem.run_bind,hkey,keyStays,Result.andThen_ok,hset]
   rw[←h4,h5]
   simp
 have hlt:(G.ρ h).map<w.heap.size:=(Array.getElem?_eq_some_iff.1 e2).1
 have hblk:∀ b,G.γ b≠some h→(w.heap.setIfInBounds (G.ρ h).map (mapO (setKV k v kv)))[b]? =w.heap[b]? :=by
  intro b hb
  rw[Array.getElem?_setIfInBounds,if_neg (fun e=>hb (by rw[←e];exact e1))]
 refine⟨undef,{ w with heap:=w.heap.setIfInBounds (G.ρ h).map (mapO (setKV k v kv)) },G,.inr ⟨?_,rfl⟩,?_⟩
 ·simp only[execOp,hX.2,hY',hZ',Sem.run_bind,hrun,Result.andThen_ok,Sem.run_pure]
 ·have C:=I.ctxS
  have S:=stepped_turn (m:=.obj (mapO (setKV k v kv))) (val:=.dead) (r:=undef) C (B:=G.ρ h) hlk (by rw[Gh.turn_self];exact .inl rfl)
   (w':={ w with heap:=w.heap.setIfInBounds (G.ρ h).map (mapO (setKV k v kv)) }) rfl rfl rfl (by simp) hblk (by simp only[RelDV]) ?_ (by simp[DV.refs]) (by simp[MO.refs])
  ·rw[Gh.turn_self] at S;exact S
  ·rw[Gh.turn_self]
   simp only[RelMO]
   refine⟨k1,e1,?_⟩
   show (w.heap.setIfInBounds (G.ρ h).map _)[(G.ρ h).map]? =_
   rw[Array.getElem?_setIfInBounds];simp[hlt]
theorem lits2 {a b:Value} (ha:isLit a=true) (hb:isLit b=true):∀ v∈[a,b],isLit v=true:=by
 intro v hv
 simp only[List.mem_cons,List.not_mem_nil,or_false] at hv
 rcases hv with rfl|rfl
 ·exact ha
 ·exact hb
theorem getKV_lit {k:List UInt8}:∀ {kv:KV} {v:Value},(∀ p∈kv,isLit p.2=true)→getKV k kv=some v→isLit v=true
 | [],v,_,h=>by cases h
 | (a0,x0)::l,v,hl,h=>by
  simp only[getKV] at h
  split at h
  ·cases h;exact hl (a0,x0) (by simp)
  ·exact getKV_lit (fun p hp=>hl p (by simp[hp])) h
theorem B.getMap {h:Nat} {kv:KV} {k:List UInt8} {zv:Value} {kt et:TypeId} {i:TypeInfo} (hx:ev1 s x=.mref h) (hy:ev1 s y=lit (.string (bsO k))) (hl:lookM s.ms h=some (.obj (mapO kv)))
  (und:Y.underlying t=some (.map kt et)) (uk:Y.underlying kt=some .string) (hi:Y.info? et=some i) (hz:i.zero=some zv) (hzl:isLit zv=true) (hkl:∀ p∈kv,isLit p.2=true) :
  Body P Y nb s ⟨dst,.lookup t x y true,ty,pos,af,gd⟩ (match getKV k kv with|some v=>.tup [lit v,lit (.bool true)]|none=>.tup [lit zv,lit (.bool false)]) [] [h]:=by
 refine .inr (SBody.of fun σ G a w hv hl2 I=>?_)
 have hX:=hv x (by simp[Op.operands])
 have hY:=hv y (by simp[Op.operands])
 rw[hx] at hX;rw[hy] at hY
 simp only[RelDV] at hX
 have hY':=(RelDV_lit_eq hY).1
 have hlk:lookM σ.ms h=some (.obj (mapO kv)):=by rw[hl2 h (.inl (by simp))];exact hl
 obtain⟨k1,e1,e2⟩:=I.ms _ _ hlk
 have hgo:(getObj (G.ρ h).map).run P w=.ok (mapO kv) w:=run_getMapO e2
 have hfk:(Instr.findKey kt (.string (bsO k)) (mkEs 0 kv)).run P w=.ok (findKV k 0 kv) w:=by
  simp only[Instr.findKey,Sem.run_bind,run_und uk,Result.andThen_ok,findNow_mk,Sem.run_pure]
 have hck:∀ b,(Instr.checkKey b 10000 kt (.string (bsO k))).run P w=.ok () w:=fun b=>checkKey_string uk 9999 b _
 have hzr:(zeroValue et).run P w=.ok zv w:=by
  simp[zeroValue,Sem.run_bind,typeInfo,TabOk.inf P hi,hz]
 have C:=I.ctxS
 have hmem:∀ v,getKV k kv=some v→isLit v=true:=fun v h=>getKV_lit hkl h
 have hrun:(Instr.lookup t (.map (some (G.ρ h).map)) (.string (bsO k)) true).run P w=.ok (match getKV k kv with|some v=>.tuple #[v,.bool true]|none=>.tuple #[zv,.bool false]) w:=by
  unfold mapO at hgo
  have hfg:=findKV_get k kv 0
  simp only[Instr.lookup,Sem.run_bind,run_und und,Result.andThen_ok,hgo,hck,hfk,Sem.run_pure]
  cases hf:findKV k 0 kv with
  | none=>
   rw[hf] at hfg
   simp only[Option.map_none] at hfg
   rw[←hfg]
   simp only[Sem.run_bind,hzr,Result.andThen_ok,Sem.run_pure,if_true]
  | some p=>
   rw[hf] at hfg
   simp only[Option.map_some] at hfg
   rw[←hfg]
   simp only[Sem.run_bind,Sem.run_pure,Result.andThen_ok,if_true]
 refine⟨(match getKV k kv with|some v=>.tuple #[v,.bool true]|none=>.tuple #[zv,.bool false]),w,G,.inl ?_,stepped_same C ?_ ?_⟩
 ·simp only[execOp,hX.2,hY',Sem.run_bind,hrun,Result.andThen_ok,Sem.run_pure]
 ·cases hg:getKV k kv with
  | none=>
   simp only[RelDV]
   exact⟨_,rfl,RelDVs_lits (vs:=[zv,.bool false]) (lits2 hzl rfl)⟩
  | some v=>
   simp only[RelDV]
   exact⟨_,rfl,RelDVs_lits (vs:=[v,.bool true]) (lits2 (hmem v hg) rfl)⟩
 ·cases getKV k kv<;>simp[DV.refs,DV.refsL,lit]
theorem B.rangeM {hm:Nat} {kv:KV} {d h:Nat} {kt et:TypeId} (hx:ev1 s x=.mref hm) (hl:lookM s.ms hm=some (.obj (mapO kv))) (und:Y.underlying t=some (.map kt et)) (hh:nameOf nb s.ms (some d)=h) (hf:hasM s.ms h=false) :
  Body P Y nb s ⟨some d,.range t x,ty,pos,af,gd⟩ (.bref h 0) [(h,.miter hm kv.length #[])] [hm]:=by
 refine .inr (SBody.of fun σ G a w hv hl2 I=>?_)
 have hX:=hv x (by simp[Op.operands])
 rw[hx] at hX
 simp only[RelDV] at hX
 have hlk:lookM σ.ms hm=some (.obj (mapO kv)):=by rw[hl2 hm (.inl (by simp))];exact hl
 have hln:lookM σ.ms h=none:=(hl2 h (.inr (by simp))).trans (hasM_none hf)
 have hne:hm≠h:=fun e=>by rw[e,hln] at hlk;cases hlk
 obtain⟨k1,e1,e2⟩:=I.ms _ _ hlk
 have hgo:(getObj (G.ρ hm).map).run P w=.ok (mapO kv) w:=run_getMapO e2
 have hrun:(Instr.range t (.map (some (G.ρ hm).map))).run P w=.ok (.pointer (some ⟨w.heap.size,0,none⟩)) (w.alloc (.mapIter (some (G.ρ hm).map) kv.length #[] kv.length)):=by
  unfold mapO at hgo
  simp only[Instr.range,Sem.run_bind,run_und und,Result.andThen_ok,hgo,Sem.run_pure,run_newObj];rfl
 refine⟨.pointer (some ⟨w.heap.size,0,none⟩),w.alloc (.mapIter (some (G.ρ hm).map) kv.length #[] kv.length),_,.inl ?_,stepped_new (B:={ addr:=some ⟨w.heap.size,0,none⟩ }) I.fresh hln ?_ ?_ (by simp[DV.refs]) (by intro k hk;simp[MO.refs] at hk;subst hk;exact .inr ⟨_,hlk⟩)⟩
 ·simp only[execOp,hX.2,Sem.run_bind,hrun,Result.andThen_ok,Sem.run_pure]
 ·simp[RelDV,Gh.new]
 ·simp only[RelMO]
  have hρ:(G.new h { addr:=some ⟨w.heap.size,0,none⟩ } w.heap.size).ρ hm=G.ρ hm:=by simp[Gh.new,hne]
  refine⟨by simp[Gh.new],by rw[hρ];exact k1,w.heap.size,by simp[Gh.new],by simp[Gh.new],?_⟩
  rw[hρ]
  exact heap_alloc_new w _
theorem B.entryM {hm h i:Nat} {kv:KV} {seen:Array Nat} {k:List UInt8} {v:Value} (hx:ev1 s x=.bref h 0) (hl:lookM s.ms h=some (.miter hm kv.length (seen.push i))) (hm':lookM s.ms hm=some (.obj (mapO kv))) (hi:kv[i]? =some (k,v)) (hvl:isLit v=true) :
  Body P Y nb s ⟨dst,.entry x,ty,pos,af,gd⟩ (.tup [lit (.string (bsO k)),lit v]) [] [h,hm]:=by
 refine .inr (SBody.of fun σ G a w hv hl2 I=>?_)
 have hX:=hv x (by simp[Op.operands])
 rw[hx] at hX
 simp only[RelDV] at hX
 obtain⟨_,b,e0,hX⟩:=hX
 have hlk:lookM σ.ms h=some (.miter hm kv.length (seen.push i)):=by rw[hl2 h (.inl (by simp))];exact hl
 have hlm:lookM σ.ms hm=some (.obj (mapO kv)):=by rw[hl2 hm (.inl (by simp))];exact hm'
 obtain⟨_,_,b',f1,f2,f3⟩:=I.ms _ _ hlk
 obtain⟨k1,e1,e2⟩:=I.ms _ _ hlm
 rw[e0] at f1
 simp only[Option.some.injEq,Addr.mk.injEq,and_true] at f1
 subst f1
 have hgo:(getObj (G.ρ hm).map).run P w=.ok (mapO kv) w:=run_getMapO e2
 have hgi:(getObj b).run P w=.ok (.mapIter (some (G.ρ hm).map) kv.length (seen.push i) kv.length) w:=by simp[getObj,Sem.run,f3]
 have hfind:(mkEs 0 kv).toArray.find? (·.born==i)=some { key:=.string (bsO k),val:=v,born:=i }:=by
  rw[List.find?_toArray]
  have key:∀ (kv:KV) (j i:Nat),kv[i]? =some (k,v)→(mkEs j kv).find? (·.born==j+i)=some { key:=.string (bsO k),val:=v,born:=j+i }:=by
   intro kv
   induction kv with
   | nil=>intro j i h;simp at h
   | cons p l ih=>
    intro j i h
    obtain⟨a0,x0⟩:=p
    cases i with
    | zero=>simp only[List.getElem?_cons_zero,Option.some.injEq,Prod.mk.injEq] at h;obtain⟨rfl,rfl⟩:=h;simp[mkEs]
    | succ i=>
     simp only[List.getElem?_cons_succ] at h
     have:=ih (j+1) i h
     rw[show j+1+i=j+(i+1) by omega] at this
     simp only[mkEs,List.find?_cons]
     have hn:(j==j+(i+1))=false:=by simp
     simp only[hn];exact this
  have:=key kv 0 i hi
  simpa using this
 have hrun:(Instr.entry (.pointer (some ⟨b,0,none⟩))).run P w=.ok (.tuple #[.string (bsO k),v]) w:=by
  unfold mapO at hgo
  simp only[Instr.entry,Sem.run_bind,hgi,Result.andThen_ok,Array.back?_push,hgo,bne_self_eq_false,Bool.false_eq_true,if_false,hfind,Sem.run_pure]
 refine⟨.tuple #[.string (bsO k),v],w,G,.inl ?_,stepped_same I.ctxS ?_ (by simp[DV.refs,DV.refsL,lit])⟩
 ·simp only[execOp,hX,Sem.run_bind,hrun,Result.andThen_ok,Sem.run_pure]
 ·simp only[RelDV]
  exact⟨_,rfl,RelDVs_lits (vs:=[.string (bsO k),v]) (lits2 rfl hvl)⟩
end
end Go.Lens
end
section
namespace Go.Lens
set_option linter.unusedSectionVars false
variable [Lz]
theorem mem_mkEs {e:MapEntry} {kv:KV} (h:e∈mkEs 0 kv):∃ k v,kv[e.born]? =some (k,v)∧e.key=.string (bsO k)∧e.val=v:=by
 obtain⟨j,hj,he⟩:=List.getElem_of_mem h
 have h1:(mkEs 0 kv)[j]? =some e:=by rw[List.getElem?_eq_getElem hj,he]
 rw[mkEs_get] at h1
 cases hk:kv[j]? with
 | none=>rw[hk] at h1;cases h1
 | some p=>
  rw[hk] at h1
  simp only[Option.map_some,Option.some.injEq,Nat.zero_add] at h1
  subst h1
  exact⟨p.1,p.2,hk,rfl,rfl⟩
theorem born_lt {e:MapEntry} {kv:KV} (h:e∈mkEs 0 kv):e.born<kv.length:=by
 obtain⟨k,v,h1,_⟩:=mem_mkEs h
 exact (List.getElem?_eq_some_iff.1 h1).1
theorem run_pick {P:Program} {w:World} {n:Nat} (hn:0<n):∃ j d,(choose (.mapNext n)).run P w=.ok j { w with drawn:=d }∧j<n:=by
 rw[run_choose]
 by_cases hf:(Question.mapNext n).forced=true
 ·exact⟨0,w.drawn,by rw[if_pos hf],hn⟩
 ·exact⟨w.tape w.drawn (.mapNext n)%n,w.drawn+1,by rw[if_neg hf];rfl,Nat.mod_lt _ hn⟩
theorem run_nextM {P:Program} {w:World} {b r:Nat} {kv:KV} {seen:Array Nat} {ty:TypeId} (hb:w.heap[b]? =some (.mapIter (some r) kv.length seen kv.length)) (hr:w.heap[r]? =some (mapO kv)) :
  ∃ d,((∀ i,i<kv.length→i∈seen)∧(Instr.next (.pointer (some ⟨b,0,none⟩)) false ty).run P w=.ok (.tuple #[.bool false]) { w with drawn:=d })∨
   ∃ i k v,kv[i]? =some (k,v)∧i∉seen∧(Instr.next (.pointer (some ⟨b,0,none⟩)) false ty).run P w=.ok (.tuple #[.bool true,.string (bsO k),v]) { w with heap:=w.heap.setIfInBounds b (.mapIter (some r) kv.length (seen.push i) kv.length),drawn:=d }:=by
 have hgb:(getObj b).run P w=.ok (.mapIter (some r) kv.length seen kv.length) w:=by simp only[getObj,Sem.run,hb]
 have hgr:(getObj r).run P w=.ok (.map (mkEs 0 kv).toArray kv.length) w:=MapKept.run_getObj_map hr
 have h0:(!seen.isEmpty&&!(mkEs 0 kv).toArray.isEmpty&&(mkEs 0 kv).toArray.all (fun x=>decide (x.born≥kv.length)))=false:=by
  cases kv with
  | nil=>simp[mkEs]
  | cons p l=>
   obtain⟨k,v⟩:=p
   simp[mkEs]
 obtain⟨L,hL⟩:∃ L,L=(mkEs 0 kv).toArray.filter (fun e=>!seen.contains e.born):=⟨_,rfl⟩
 have hmem:∀ x∈L,x∈mkEs 0 kv∧x.born∉seen:=by
  intro x hx
  rw[hL,Array.mem_filter] at hx
  simpa using hx
 have e1:L.filter (fun x=>decide (x.born<kv.length))=L:=Array.filter_eq_self.2 (fun x hx=>by simpa using born_lt (hmem x hx).1)
 have e2:L.filter (fun x=>decide (x.born≥kv.length))= #[]:=by
  rw[Array.filter_eq_empty_iff]
  intro x hx
  have:=born_lt (hmem x hx).1
  simp;omega
 have hnx:(Instr.next (.pointer (some ⟨b,0,none⟩)) false ty).run P w=((choose (.mapNext (((if L.isEmpty then #[none] else #[])++(L++ #[]).map some:Array (Option MapEntry))).size)).run P w).andThen (fun j w1=>
   (match ((if L.isEmpty then #[none] else #[])++(L++ #[]).map some:Array (Option MapEntry))[j]? with
   | some (some e)=>do
    setObj b (.mapIter (some r) kv.length (seen.push e.born) kv.length)
    pure (Value.tuple #[.bool true,e.key,e.val])
   | some none=>(pure (Value.tuple #[.bool false]):Sem Value)
   | none=>stuck "Next: no such candidate").run P w1):=by
  simp only[Instr.next,Sem.run_bind,hgb,Result.andThen_ok,hgr,h0,Bool.false_eq_true,if_false,←hL,e1,e2]
  rfl
 by_cases hz:L.size=0
 ·have:L= #[]:=Array.eq_empty_of_size_eq_zero hz
  subst this
  refine⟨w.drawn,.inl ⟨fun i hi=>?_,?_⟩⟩
  ·by_cases hs:i∈seen
   ·exact hs
   ·exfalso
    have hg:(mkEs 0 kv)[i]? =some { key:=.string (bsO kv[i].1),val:=kv[i].2,born:=i }:=by
     rw[mkEs_get,List.getElem?_eq_getElem hi];simp
    have hm:({ key:=.string (bsO kv[i].1),val:=kv[i].2,born:=i }:MapEntry)∈(mkEs 0 kv).toArray.filter (fun e=>!seen.contains e.born):=by
     rw[Array.mem_filter]
     exact⟨by rw[List.mem_toArray];exact List.mem_of_getElem? hg,by simpa using hs⟩
    rw[←hL] at hm
    simp at hm
  ·rw[hnx]
   simp[run_choose,Question.forced]
 ·have hne:L.isEmpty=false:=by rw[Array.isEmpty_eq_false_iff];intro e;rw[e] at hz;exact hz rfl
  obtain⟨j,d,hj,hlt⟩:=run_pick (P:=P) (w:=w) (n:=L.size) (by omega)
  have hx:=Array.getElem_mem hlt
  obtain⟨hm1,hm2⟩:=hmem _ hx
  obtain⟨k,v,g1,g2,g3⟩:=mem_mkEs hm1
  have hbl:b<w.heap.size:=(Array.getElem?_eq_some_iff.1 hb).1
  refine⟨d,.inr ⟨L[j].born,k,v,g1,hm2,?_⟩⟩
  rw[hnx]
  simp only[hne,Bool.false_eq_true,if_false,Array.append_empty,Array.empty_append,Array.size_map,hj,Result.andThen_ok,Array.getElem?_map,Array.getElem?_eq_getElem hlt,Option.map_some]
  simp only[Sem.run_bind,setObj,Sem.run,hb,Result.andThen_ok,g2,g3,Sem.run_pure]
section
variable {P:Program} {Y:Tab} [TabOk P Y] {nb n:Nat} {ops:Array Oper} {s:St}
theorem T.nextM {id h hm:Nat} {kv:KV} {seen:Array Nat} {dst:Option Tmp} {x:Operand} {ty:TypeId} {pos:String} {af:Array Edge} {os:List Oper} {Q:Exit→St→Prop}
  (hops:ops.toList=⟨dst,.next x false,ty,pos,af,none⟩::os) (hda:dstAll n (.region id ops false)=true) (hx:ev1 s x=.bref h 0)
  (hl:lookM s.ms h=some (.miter hm kv.length seen)) (hmm:lookM s.ms hm=some (.obj (mapO kv))) (hkl:∀ p∈kv,isLit p.2=true)
  (hT:∀ i k v,kv[i]? =some (k,v)→i∉seen→RG P Y nb ops false os (stp s ⟨dst,.tup [lit (.bool true),lit (.string (bsO k)),lit v],[(h,.miter hm kv.length (seen.push i))],[h,hm]⟩) [] (fun s'=>Q .normal s'))
  (hF:(∀ i,i<kv.length→i∈seen)→RG P Y nb ops false os (stp s ⟨dst,.tup [lit (.bool false)],[],[h,hm]⟩) [] (fun s'=>Q .normal s')):T P n nb (.region id ops false) s Q:=by
 intro G a w R I hn hK
 simp only[dstAll,Bool.and_eq_true] at hda
 have hda1:=hda.1
 rw[hops] at hda1
 simp only[List.all_cons,Bool.and_eq_true] at hda1
 obtain⟨hd0,hds⟩:=hda1
 have hidx:(List.range ops.size).map (fun i=>ops[i]?)=ops.toList.map some:=by
  apply List.ext_getElem?
  intro i
  simp only[List.getElem?_map]
  by_cases hi:i<ops.size
  ·simp[hi]
  ·simp[hi]
 have hsz:ops.size=os.length+1:=by rw[←Array.length_toList,hops];rfl
 have hrng:List.range ops.size=0::(List.range os.length).map Nat.succ:=by rw[hsz,List.range_succ_eq_map]
 rw[hops,hrng] at hidx
 simp only[List.map_cons,List.cons.injEq] at hidx
 obtain⟨hi0,hidx⟩:=hidx
 refine wp_region ?_
 rw[hrng]
 simp only[wpOps,hi0]
 have hX:=ev1_sound I x
 rw[hx] at hX
 simp only[RelDV] at hX
 obtain⟨_,b,e0,hX⟩:=hX
 obtain⟨ka,kb,b',f1,f2,f3⟩:=I.ms _ _ hl
 obtain⟨k1,e1,e2⟩:=I.ms _ _ hmm
 rw[e0] at f1
 simp only[Option.some.injEq,Addr.mk.injEq,and_true] at f1
 subst f1
 have hwant:Region.wanted (⟨dst,.next x false,ty,pos,af,none⟩:Oper) (yielded ops a.tmps)=true:=rfl
 rw[if_pos hwant]
 left
 have pd:∀ v,(a.put dst v).defers=a.defers:=fun v=>by cases dst<;>rfl
 have fin:∀ (e:Ef) (r:Value) (w':World) (G1:Gh),e.dst=dst→Stepped G w (lookM s.ms) e.val e.ms G1 w' r→RG P Y nb ops false os (stp s e) [] (fun s'=>Q .normal s')→
   wpOps P ops R ((List.range os.length).map Nat.succ) (a.put dst r) w':=by
  rintro e r w' G1 rfl S ⟨es,hes,_,hq⟩
  obtain⟨I1,Sn1⟩:=I.eff (K:=nb) S e.dst (dstOk_lt hd0 hn)
  refine textR (P:=P) hes hidx hds (G:=G1) I1 (by rw[Act.put_size];exact hn) ?_
  intro G2 a2 w2 I2 Sn2 hn2 hd2
  exact hK _ _ _ _ _ hq I2 (Sn1.trans Sn2) hn2 (hd2.trans (pd r))
 obtain⟨d,⟨hall,hrun⟩|⟨i,k,v,g1,g2,hrun⟩⟩:=run_nextM (P:=P) (ty:=ty) f3 e2
 ·have hex:(execOp a.eval ⟨dst,.next x false,ty,pos,af,none⟩).run P w=.ok (.value (.tuple #[.bool false])) { w with drawn:=d }:=by
   simp only[execOp,hX,Sem.run_bind,hrun,Result.andThen_ok,Sem.run_pure]
  unfold Oper.wp
  rw[hex]
  refine fin ⟨dst,.tup [lit (.bool false)],[],[h,hm]⟩ _ _ G rfl ?_ (hF hall)
  have I':Inv G s.vw a { w with drawn:=d }:=I.drew d
  have S:=stepped_same I'.ctxS (val:=.tup [lit (.bool false)]) (r:=.tuple #[.bool false]) (by simp only[RelDV];exact⟨_,rfl,RelDVs_lits (vs:=[.bool false]) (by simp[isLit])⟩) (by simp[DV.refs,DV.refsL,lit])
  exact { S with later:=⟨S.later.base,S.later.R0,S.later.R0c,S.later.R0m,S.later.os,S.later.tape,S.later.output,S.later.size,S.later.cold⟩ }
 ·have hex:(execOp a.eval ⟨dst,.next x false,ty,pos,af,none⟩).run P w=.ok (.value (.tuple #[.bool true,.string (bsO k),v])) { w with heap:=w.heap.setIfInBounds b (.mapIter (some (G.ρ hm).map) kv.length (seen.push i) kv.length),drawn:=d }:=by
   simp only[execOp,hX,Sem.run_bind,hrun,Result.andThen_ok,Sem.run_pure]
  unfold Oper.wp
  rw[hex]
  refine fin ⟨dst,.tup [lit (.bool true),lit (.string (bsO k)),lit v],[(h,.miter hm kv.length (seen.push i))],[h,hm]⟩ _ _ G rfl ?_ (hT i k v g1 g2)
  have hbl:b<w.heap.size:=(Array.getElem?_eq_some_iff.1 f3).1
  have hblk:∀ b',G.γ b'≠some h→(w.heap.setIfInBounds b (.mapIter (some (G.ρ hm).map) kv.length (seen.push i) kv.length))[b']? =w.heap[b']? :=by
   intro b' hb
   rw[Array.getElem?_setIfInBounds,if_neg (fun e=>hb (by rw[←e];exact f2))]
  have hvl:isLit v=true:=hkl (k,v) (List.mem_of_getElem? g1)
  have S:=stepped_turn (m:=.miter hm kv.length (seen.push i)) (val:=.tup [lit (.bool true),lit (.string (bsO k)),lit v]) (r:=.tuple #[.bool true,.string (bsO k),v]) I.ctxS (B:=G.ρ h) hl (by rw[Gh.turn_self];exact .inl rfl)
   (w':={ w with heap:=w.heap.setIfInBounds b (.mapIter (some (G.ρ hm).map) kv.length (seen.push i) kv.length),drawn:=d }) rfl rfl rfl (by simp) hblk ?_ ?_ (by simp[DV.refs,DV.refsL,lit]) (by intro k hk;simp[MO.refs] at hk;subst hk;exact⟨_,hmm⟩)
  ·rw[Gh.turn_self] at S;exact S
  ·rw[Gh.turn_self]
   simp only[RelDV]
   refine⟨_,rfl,RelDVs_lits (vs:=[.bool true,.string (bsO k),v]) ?_⟩
   intro u hu
   rcases List.mem_cons.1 hu with rfl|hu
   ·rfl
   ·exact lits2 rfl hvl u hu
  ·rw[Gh.turn_self]
   simp only[RelMO]
   refine⟨ka,kb,b,e0,f2,?_⟩
   show (w.heap.setIfInBounds b _)[b]? =_
   rw[Array.getElem?_setIfInBounds];simp[hbl]
end
end Go.Lens
end
section
namespace Go.Lens
set_option linter.unusedSectionVars false
variable [Lz]
def SubL (ms:List (Nat×MO)):List (Nat×MO)→Prop
 | []=>True
 | p::l=>lookM ms p.1=some p.2∧SubL ms l
theorem SubL.look {ms:List (Nat×MO)}:∀ {l:List (Nat×MO)},SubL ms l→∀ {h:Nat} {o:MO},lookM l h=some o→lookM ms h=some o∧h∈l.map (·.1)
 | [],_,h,o,e=>by cases e
 | p::l,H,h,o,e=>by
  rw[lookM_cons] at e
  split at e
  ·rename_i hq
   cases e
   rw[←hq];exact⟨H.1,by simp⟩
  ·have:=H.2.look e
   exact⟨this.1,by simp only[List.map_cons,List.mem_cons];exact .inr this.2⟩
section
variable {P:Program} {Y:Tab} [TabOk P Y] {nb:Nat} {s:St} {dst:Option Tmp} {ty u:TypeId} {pos:String} {af:Array Edge} {gd:Option (Nat×Bool)} {t:TypeId} {x y z:Operand}
theorem B.callS {f:Operand} {args:Array Operand} {ats:Array TypeId} {fid:FuncId} {first caps ds:List DV} {val:DV} {l out:List (Nat×MO)} (H:CallOk P fid ds (lookM l) val out) (hf:tgtX (ev1 s f)=some (fid,first,caps))
  (hds:first++args.toList.map (ev1 s)++caps=ds) (hsub:SubL s.ms l) (hcl:closedM l=true) (hnew:out.all (fun p=>hasM l p.1||!hasM s.ms p.1)=true):Body P Y nb s ⟨dst,.call ⟨.value f,args,ats⟩,ty,pos,af,gd⟩ val out (l.map (·.1)):=by
 refine .inr fun σ G a w next Q h1 h2 I hn=>?_
 have hops:(Op.call ⟨.value f,args,ats⟩).operands.toList=f::args.toList:=call_ops
 rw[hops] at h1
 have hev:∀ z∈f::args.toList,ev1 σ z=ev1 s z:=fun z hz=>ev1_agree h1 hz
 have hF:RelDV G (G.rd w) (ev1 s f) (a.eval f):=by rw[←hev f (by simp)];exact ev1_sound I f
 obtain⟨vx,vy,ef,g1,g2⟩:=tgtX_sound hf hF
 have hargs:RelDVs G (G.rd w) (args.toList.map (ev1 s)) (args.toList.map a.eval):=by
  rw[←List.map_congr_left (f:=ev1 σ) (g:=ev1 s) (fun z hz=>hev z (by simp[hz]))]
  have:∀ l:List Operand,RelDVs G (G.rd w) (l.map (ev1 σ)) (l.map a.eval):=by
   intro l
   induction l with
   | nil=>simp[RelDVs]
   | cons z l ih=>simp only[List.map_cons,RelDVs];exact⟨_,_,rfl,ev1_sound I z,ih⟩
  exact this _
 have hall:RelDVs G (G.rd w) ds (vx++args.map a.eval++vy).toList:=by
  rw[←hds]
  simp only[Array.toList_append,Array.toList_map]
  exact (g1.append hargs).append g2
 have HL:CallOk P fid ds (lookM σ.ms) val out:=by
  refine H.frame (fun h o e=>?_) (fun k o h e hh=>closedM_spec hcl k o e h hh) (fun h hh e=>?_)
  ·obtain⟨e1,e2⟩:=hsub.look e
   rw[h2 h (.inl e2)];exact e1
  ·rw[h2 h (.inr hh)];exact allHas hnew h hh e
 have hexec:(execOp a.eval ⟨dst,.call ⟨.value f,args,ats⟩,ty,pos,af,gd⟩).run P w=(callFunc fid (vx++args.map a.eval++vy)).run P w:=by
  simp only[execOp,resolve,ef,Deferred.ofValue,Sem.run_bind,Sem.run_pure,Result.andThen_ok,invoke]
 unfold Oper.wp
 rcases HL.call G w _ I.mem hall with ⟨he,hcalls⟩|⟨r,w',he,G',S⟩
 ·rw[hexec,he,Oper.upon_enter]
  refine Calls.mono hcalls ?_
  rintro e w'' ⟨r,rfl,G',S⟩
  exact hn r w'' G' S
 ·rw[hexec,he]
  exact hn r w' G' S
def setF (k c:List UInt8):List Fld→List Fld
 | []=>[(k,c)]
 | (a,x)::l=>if k=a then (a,c)::l else (a,x)::setF k c l
def getF (k:List UInt8):List Fld→Option (List UInt8)
 | []=>none
 | (a,x)::l=>if k=a then some x else getF k l
def kvF (m:List Fld):KV:=m.map fun p=>(p.1,.string (bsO p.2))
theorem kvF_set (k c:List UInt8):∀ m:List Fld,setKV k (.string (bsO c)) (kvF m)=kvF (setF k c m)
 | []=>rfl
 | (a,x)::l=>by
  simp only[kvF,List.map_cons,setKV,setF]
  split
  ·rfl
  ·rw[List.map_cons];congr 1;exact kvF_set k c l
theorem kvF_get (k:List UInt8):∀ m:List Fld,getKV k (kvF m)=(getF k m).map fun c=>.string (bsO c)
 | []=>rfl
 | (a,x)::l=>by
  simp only[kvF,List.map_cons,getKV,getF]
  split
  ·rfl
  ·exact kvF_get k l
theorem kvF_lit (m:List Fld):∀ p∈kvF m,isLit p.2=true:=by
 intro p hp
 obtain⟨q,_,rfl⟩:=List.mem_map.1 hp
 rfl
theorem kvF_names (m:List Fld):(kvF m).map (·.1)=m.map (·.1):=by simp[kvF,Function.comp_def]
theorem B.newMapF {d h:Nat} (hh:nameOf nb s.ms (some d)=h) (hm:hasM s.ms h=false):Body P Y nb s ⟨some d,.makeMap t none,ty,pos,af,gd⟩ (.mref h) [(h,.obj (mapO (kvF [])))] []:=B.newMap hh hm
theorem B.setMapF {h:Nat} {m:List Fld} {k c:List UInt8} {kt et:TypeId} (hx:ev1 s x=.mref h) (hy:ev1 s y=lit (.string (bsO k))) (hz:ev1 s z=lit (.string (bsO c))) (hl:lookM s.ms h=some (.obj (mapO (kvF m))))
  (und:Y.underlying t=some (.map kt et)) (uk:Y.underlying kt=some .string) :
  Body P Y nb s ⟨none,.mapUpdate t x y z,ty,pos,af,gd⟩ .dead [(h,.obj (mapO (kvF (setF k c m))))] [h]:=by
 have:=B.setMap (P:=P) (Y:=Y) (nb:=nb) (s:=s) (ty:=ty) (pos:=pos) (af:=af) (gd:=gd) (t:=t) hx hy hz hl und uk
 rwa [kvF_set] at this
theorem B.getMapF {h:Nat} {m:List Fld} {k:List UInt8} {kt et:TypeId} {i:TypeInfo} (hx:ev1 s x=.mref h) (hy:ev1 s y=lit (.string (bsO k))) (hl:lookM s.ms h=some (.obj (mapO (kvF m))))
  (und:Y.underlying t=some (.map kt et)) (uk:Y.underlying kt=some .string) (hi:Y.info? et=some i) (hz:i.zero=some (.string (bsO []))) :
  Body P Y nb s ⟨dst,.lookup t x y true,ty,pos,af,gd⟩ (.tup [lit (.string (bsO ((getF k m).getD []))),lit (.bool (getF k m).isSome)]) [] [h]:=by
 have:=B.getMap (P:=P) (Y:=Y) (nb:=nb) (s:=s) (dst:=dst) (ty:=ty) (pos:=pos) (af:=af) (gd:=gd) (t:=t) hx hy hl und uk hi hz rfl (kvF_lit m)
 rw[kvF_get] at this
 cases hg:getF k m with
 | none=>rw[hg] at this;exact this
 | some c=>rw[hg] at this;exact this
theorem ev1_refs {σ:St} {G:Gh} {a:Act} {w:World} (I:Inv G σ.vw a w) (x:Operand):∀ h∈(ev1 σ x).refs,∃ o,lookM σ.ms h=some o:=by
 intro h hh
 unfold ev1 at hh
 rw[refs_evD] at hh
 cases x with
 | tmp t=>exact I.refsT t h hh
 | const v=>simp only[evS,refs_cellDV] at hh;cases hh
 | global g=>simp only[evS,DV.refs] at hh;cases hh
 | func f=>simp only[evS,DV.refs] at hh;cases hh
theorem SBody.ofR {o:Oper} {val:DV} {m:List (Nat×MO)} {rd:List Nat} (H:∀ (σ:St) (G:Gh) (a:Act) (w:World),(∀ x∈o.op.operands.toList,RelDV G (G.rd w) (ev1 s x) (a.eval x))→(∀ x∈o.op.operands.toList,∀ h∈(ev1 s x).refs,∃ o,lookM σ.ms h=some o)→
  (∀ h,(h∈rd∨h∈m.map (·.1))→lookM σ.ms h=lookM s.ms h)→Inv G σ.vw a w→
  ∃ r w' G',((execOp a.eval o).run P w=.ok (.value r) w'∨(execOp a.eval o).run P w=.ok .skip w'∧r=undef)∧Stepped G w (lookM σ.ms) val m G' w' r):SBody P s o val m rd:=by
 intro σ G a w next Q h1 h2 I hn
 obtain⟨r,w',G',hrun,S⟩:=H σ G a w (fun x hx=>by rw[←ev1_agree h1 hx];exact ev1_sound I x) (fun x hx=>by rw[←ev1_agree h1 hx];exact ev1_refs I x) h2 I
 have:=hn r w' G' S
 unfold Oper.wp
 rcases hrun with hrun|⟨hrun,rfl⟩
 ·rw[hrun];exact this
 ·rw[hrun];exact this
theorem B.idxA {ds:List DV} {d:DV} {i:Nat} {len:Nat} {e:TypeId} (hx:ev1 s x=.agg ds) (hy:ev1 s y=lit (.int .i64 (i:Int))) (und:Y.underlying t=some (.array len e)) (ha:aggT Y e=some false) (hs:szT Y e=some 1)
  (hi:i<len) (hd:ds[i]? =some d):Body P Y nb s ⟨dst,.index t x y,ty,pos,af,gd⟩ d [] []:=by
 refine .inr (SBody.ofR fun σ G a w hv hrf _ I=>?_)
 have hX:=hv x (by simp[Op.operands])
 have hR:=hrf x (by simp[Op.operands])
 rw[hx] at hR
 have hY:=hv y (by simp[Op.operands])
 rw[hx] at hX;rw[hy] at hY
 have hY':=(RelDV_lit_eq hY).1
 simp only[RelDV] at hX
 obtain⟨vs,hX,_,hds⟩:=hX
 have get:∀ (ds:List DV) (vs:List Value) (i:Nat),RelDVs G (G.rd w) ds vs→ds[i]? =some d→∃ v,vs[i]? =some v∧RelDV G (G.rd w) d v:=by
  intro ds
  induction ds with
  | nil=>intro vs i _ h;simp at h
  | cons d0 l ih=>
   intro vs i h hi
   simp only[RelDVs] at h
   obtain⟨v,vs',rfl,h1,h2⟩:=h
   cases i with
   | zero=>simp only[List.getElem?_cons_zero,Option.some.injEq] at hi;subst hi;exact⟨v,rfl,h1⟩
   | succ i=>exact ih vs' i h2 (by simpa using hi)
 obtain⟨v,g1,g2⟩:=get _ _ _ hds hd
 have hrun:(Instr.index t (.agg vs) (.int .i64 (i:Int))).run P w=.ok v w:=by
  have hb:(0:Int)≤(i:Int)∧(i:Int)<(len:Int):=by omega
  simp only[Instr.index,Sem.run_bind,asIntOf,Sem.run_pure,run_und und,Result.andThen_ok,hb,and_self,if_true,Sem.run_ite,run_sizeOf' hs,Int.toNat_natCast,Nat.mul_one]
  exact run_part_cell ha (by rw[←Array.getElem?_toList];exact g1)
 refine⟨v,w,G,.inl ?_,stepped_same I.ctxS g2 (fun k hk=>?_)⟩
 ·simp only[execOp,hX,hY',Sem.run_bind,hrun,Result.andThen_ok,Sem.run_pure]
 ·exact hR k (refsL_mem.2 ⟨d,List.mem_of_getElem? hd,hk⟩)
theorem B.steql {a b:List UInt8} {p q:Bool} (hx:ev1 s x=.pv (.agg [.lit (.string (bsO a)),.lit (.bool p)])) (hy:ev1 s y=.pv (.agg [.lit (.string (bsO b)),.lit (.bool q)])) (hf:flatEq Y t=some [.string,.bool]) :
  Body P Y nb s ⟨dst,.binOp .eql t x y u,ty,pos,af,gd⟩ (lit (.bool (decide (a=b)&&(p==q)))) [] []:=by
 refine B.bin hx hy ?_
 have h1:decide (a=b)=((bsO a).toList==(bsO b).toList):=by rw[Bool.eq_iff_iff];simp[toList_inj,bsO_inj]
 have h2:binQ Y .eql t (.pv (.agg [.lit (.string (bsO a)),.lit (.bool p)])) (.pv (.agg [.lit (.string (bsO b)),.lit (.bool q)]))=some (true,lit (.bool (decide (a=b)&&(p==q)))):=by
  simp only[binQ,hf,eqVs,eqV,h1,Bool.and_true]
 show qE (binW Y .eql t (lookM []) (isNilC y) _ _)=_
 have h3:binW Y .eql t (lookM []) (isNilC y) (.pv (.agg [.lit (.string (bsO a)),.lit (.bool p)])) (.pv (.agg [.lit (.string (bsO b)),.lit (.bool q)]))=some (true,lit (.bool (decide (a=b)&&(p==q)))):=by
  unfold binW
  simp only[nilQ,nilKind,samePQ,h2]
 rw[h3];rfl
end
def PostM (Y:Tab) (F:FnI) (lo:Nat) (val:DV) (out:List (Nat×MO)) (e:Exit) (s:St):Prop:=(e=.normal∨e=.ret)∧closeX Y F lo [] s=some (val,out)
theorem leafM {Y:Tab} {F:FnI} {lo:Nat} {val val0:DV} {out out0:List (Nat×MO)} {s:St} (h:closeX Y F lo [] s=some (val0,out0)) (hv:val0=val) (ho:out0=out):PostM Y F lo val out .ret s:=⟨.inr rfl,by rw[h,hv,ho]⟩
theorem callOk_ofM {P:Program} {Y:Tab} [TabOk P Y] {F:FnI} {f:FuncId} {fn:Func} {c:Code} (lo:Nat) (hf:P.funcs[f]? =some fn) (hb:fn.body=some c) (hn:fn.ntmps=F.n) (hr:fn.results=F.res) (he:∀ args w,(callFunc f args).run P w=.ok (.enter f args) w)
  {ds:List DV} {val:DV} {out:List (Nat×MO)} (hl:ds.length≤F.n) (hrf:DV.refsL ds=[])
  (h:TK P F.n lo (PostM Y F lo val out) c [] ⟨zipT 0 ds,[]⟩):CallOk P f ds (lookM []) val out:=by
 refine CallR.ok (CallR.of (Y:=Y) (F:=F) (lo:=lo) hf hb hn hr he hl (fun h hh=>by rw[hrf] at hh;cases hh) (fun h o e=>by cases e) (T.mono h ?_))
 rintro e s' ⟨h1,h2⟩
 exact⟨h1,val,out,h2,rfl,rfl⟩
end Go.Lens
end
section
namespace Go.Lens
set_option linter.unusedSectionVars false
variable [Lz]
section
variable {P:Program} {Y:Tab} [TabOk P Y] {nb:Nat} {s:St} {dst:Option Tmp} {ty u:TypeId} {pos:String} {af:Array Edge} {gd:Option (Nat×Bool)} {t:TypeId} {x y z:Operand}
theorem B.makeSl {α:Type} {enc:α→List PV} {z0:α} {n m d h sz bs:Nat} {mi:Int} {e:TypeId} {i:TypeInfo} {zv:Value} (hx:ev1 s x=lit (.int .i64 (n:Int))) (hy:ev1 s y=lit (.int .i64 mi)) (hmi:mi=(m:Int)) (und:Y.underlying t=some (.slice e)) (hi:Y.info? e=some i)
  (hz:i.zero=some zv) (hc:cellPVs zv.cells.toList=some (enc z0)) (hq:(Nat.blt 0 i.size&&Nat.beq zv.cells.size i.size&&Nat.beq i.size sz)=true) (hb:i.bytes=bs)
  (hle:n≤m∧bs*m≤281474976710656∧m≤9223372036854775807) (hh:nameOf nb s.ms (some d)=h) (hm:hasM s.ms h=false) :
  Body P Y nb s ⟨some d,.makeSlice t x y,ty,pos,af,gd⟩ (.aref h 0) [(h,.arr 0 sz e ((List.replicate n z0).map enc))] []:=by
 subst hb
 simp only[Bool.and_eq_true,Nat.beq_eq,Nat.blt_eq] at hq
 obtain⟨⟨k1,k2⟩,rfl⟩:=hq
 refine B.of0 (val0:=.aref h 0) (m0:=[(h,.arr 0 i.size e ((List.replicate n z0).map enc))]) (lo:=0) (nm:=h) (O0_ok P) ?_ ?_ (Frz.refl _ _ _) ?_
 ·intro q hq
  have:q=x∨q=y:=by simpa [Op.operands] using hq
  rcases this with rfl|rfl
  ·rw[hx];rfl
  ·rw[hy];rfl
 ·have e1:evU (tmpsOf [x,y]) s x=_:=(evU_own (by simp)).trans hx
  have e2:evU (tmpsOf [x,y]) s y=_:=(evU_own (by simp)).trans hy
  have hv:effV Y h (some d) (.makeSlice t x y) (evU (tmpsOf [x,y]) s) (lookM [])=makeSliceV Y h t (evU (tmpsOf [x,y]) s x) (evU (tmpsOf [x,y]) s y) (lookM []):=rfl
  show (match effV Y h (some d) (.makeSlice t x y) (evU (tmpsOf [x,y]) s) (lookM []) with|some ⟨true,v,m⟩=>some (v,m)|_=>none)=_
  rw[hv,e1,e2,hmi]
  have hl:(lookM ([]:List (Nat×MO)) h).isNone=true:=rfl
  have hg:decide (0≤(n:Int)∧(n:Int)≤(m:Int)∧(i.bytes:Int)*(m:Int)≤281474976710656∧(m:Int)≤9223372036854775807)=true:=by
   apply decide_eq_true
   refine⟨by omega,by omega,?_,by omega⟩
   have:=hle.2.1
   rw[←Int.natCast_mul];omega
  simp only[makeSliceV,lit,und,hi,hz,hc,hl,k1,k2,decide_true,Bool.and_self,if_true,hg,Int.toNat_natCast,List.map_replicate]
 ·simp[hm]
theorem InvM.ctx2 {G:Gh} {w:World} {look:Nat→Option MO} (M:InvM G look w) {ev:Operand→DV} {ρ:Operand→Value} (h1:∀ x,RelDV G (G.rd w) (ev x) (ρ x)) (h2:∀ x,∀ h∈(ev x).refs,∃ o,look h=some o):Ctx G w ρ ev look look:=by
 refine⟨⟨h1,M.ms,M.readable.1,M.readable.2⟩,fun _ _ h=>h,?_,M.fresh⟩
 rintro h (⟨x,hx⟩|⟨k,o,ho,hh⟩)
 ·exact h2 x h hx
 ·exact M.refsM k o h ho hh
end
def dn:DV→Option PV
 | .nils=>some (.slice [])
 | .pv p=>some p
 | _=>none
def dnL:List DV→Option (List PV)
 | []=>some []
 | d::ds=>match dn d,dnL ds with
  | some p,some ps=>some (p::ps)
  | _,_=>none
theorem dn_ok {G:Gh} {R:Rd} {d:DV} {p:PV} {v:Value} (h:dn d=some p) (hv:RelDV G R d v):RelPV R p v:=by
 cases d with
 | nils=>
  cases h
  simp only[RelDV] at hv
  subst hv
  simp only[RelPV]
  exact⟨none,0,rfl,Nat.le_refl _,.inl trivial⟩
 | pv q=>cases h;simpa only[RelDV] using hv
 | _=>cases h
theorem dnL_ok {G:Gh} {R:Rd}:∀ {ds:List DV} {ps:List PV} {vs:List Value},dnL ds=some ps→RelDVs G R ds vs→RelVals R ps vs
 | [],ps,vs,h,hv=>by
  cases h
  simpa only[RelDVs,RelVals] using hv
 | d::ds,ps,vs,h,hv=>by
  simp only[dnL] at h
  split at h
  ·rename_i p q h1 h2
   cases h
   simp only[RelDVs] at hv
   obtain⟨v,vs',rfl,k1,k2⟩:=hv
   simp only[RelVals]
   exact⟨v,vs',rfl,dn_ok h1 k1,dnL_ok h2 k2⟩
  ·cases h
theorem Frz.aggN (l:List (Nat×MO)) {ds:List DV} {ps:List PV} (hd:dnL ds=some ps):Frz l (.agg ds) [] (.pv (.agg ps)) []:=by
 intro G w G1 w1 r M S
 have hv:=S.hval
 simp only[RelDV] at hv
 obtain⟨vs,rfl,ho,hvs⟩:=hv
 refine⟨G1,{ S with hval:=?_,refs:=by simp[DV.refs] }⟩
 simp only[RelDV,RelPV]
 exact⟨vs,rfl,ho,dnL_ok hd hvs⟩
theorem relDVs_pv {G:Gh} {R:Rd}:∀ {ps:List PV} {vs:List Value},RelVals R ps vs→RelDVs G R (ps.map .pv) vs
 | [],vs,h=>by simpa only[RelDVs,RelVals,List.map_nil] using h
 | p::ps,vs,h=>by
  simp only[RelVals] at h
  obtain⟨v,vs',rfl,k1,k2⟩:=h
  simp only[RelDVs,List.map_cons]
  exact⟨v,vs',rfl,by simpa only[RelDV] using k1,relDVs_pv k2⟩
theorem Frz.boxN (l:List (Nat×MO)) {h:Nat} {T:TypeId} {ds:List DV} {ps:List PV} (hd:dnL ds=some ps):Frz l (.bref h 0) [(h,.box T ds)] (.bref h 0) [(h,.box T (ps.map .pv))]:=by
 intro G w G1 w1 r M S
 have hb:=S.hms h _ (by simp:(h,MO.box T ds)∈[(h,MO.box T ds)])
 refine⟨G1,{ S with hms:=?_,old:=by simpa using S.old,own:=by simpa using S.own,refs:=by simpa using S.refs,refsM:=?_ }⟩
 ·intro k o hk
  simp only[List.mem_singleton,Prod.mk.injEq] at hk
  obtain⟨rfl,rfl⟩:=hk
  simp only[RelMO] at hb ⊢
  obtain⟨e1,b,c,e2,e3,e4,e5,e6⟩:=hb
  exact⟨e1,b,c,e2,e3,e4,e5,relDVs_pv (dnL_ok hd e6)⟩
 ·intro k o hk h' hh
  simp only[List.mem_singleton,Prod.mk.injEq] at hk
  obtain⟨rfl,rfl⟩:=hk
  simp only[MO.refs,refsL_pv] at hh
  cases hh
def nz:DV→DV
 | .nils=>.pv (.slice [])
 | d=>d
theorem nz_ok {G:Gh} {R:Rd} {d:DV} {v:Value} (h:RelDV G R d v):RelDV G R (nz d) v:=by
 unfold nz
 split
 ·simp only[RelDV];exact dn_ok rfl h
 ·exact h
theorem nz_refs (d:DV):(nz d).refs=d.refs:=by
 unfold nz
 split
 ·simp[DV.refs]
 ·rfl
theorem nzL_ok {G:Gh} {R:Rd}:∀ {ds:List DV} {vs:List Value},RelDVs G R ds vs→RelDVs G R (ds.map nz) vs
 | [],_,h=>h
 | d::ds,vs,h=>by
  simp only[RelDVs] at h
  obtain⟨v,vs',rfl,k1,k2⟩:=h
  simp only[RelDVs,List.map_cons]
  exact⟨v,vs',rfl,nz_ok k1,nzL_ok k2⟩
theorem nzL_refs:∀ ds:List DV,DV.refsL (ds.map nz)=DV.refsL ds
 | []=>rfl
 | d::ds=>by simp only[List.map_cons,DV.refsL,nz_refs,nzL_refs ds]
theorem CallOk.nz {P:Program} {f:FuncId} {ds ds1:List DV} {look:Nat→Option MO} {val:DV} {ms:List (Nat×MO)} (H:CallOk P f ds1 look val ms) (e:ds.map Lens.nz=ds1):CallOk P f ds look val ms:=by
 subst e
 exact⟨fun k hk=>H.refs k (by rw[nzL_refs];exact hk),fun G w vs M hv=>H.call G w vs M (nzL_ok hv)⟩
def PostL (Y:Tab) (F:FnI) (lo:Nat) (l:List (Nat×MO)) (val:DV) (out:List (Nat×MO)) (e:Exit) (s:St):Prop:=(e=.normal∨e=.ret)∧closeX Y F lo l s=some (val,out)
theorem leafL {Y:Tab} {F:FnI} {lo:Nat} {l:List (Nat×MO)} {val val0:DV} {out out0:List (Nat×MO)} {s:St} {e:Exit} (he:e=.normal∨e=.ret) (h:closeX Y F lo l s=some (val0,out0)) (hv:val0=val) (ho:out0=out):PostL Y F lo l val out e s:=⟨he,by rw[h,hv,ho]⟩
theorem callOk_ofL {P:Program} {Y:Tab} [TabOk P Y] {F:FnI} {f:FuncId} {fn:Func} {c:Code} (lo:Nat) (l:List (Nat×MO)) (hf:P.funcs[f]? =some fn) (hb:fn.body=some c) (hn:fn.ntmps=F.n) (hr:fn.results=F.res) (he:∀ args w,(callFunc f args).run P w=.ok (.enter f args) w)
  {ds:List DV} {val:DV} {out:List (Nat×MO)} (hl:ds.length≤F.n) (hrf:(DV.refsL ds).all (hasM l)=true) (hnb:l.all (fun p=>Nat.blt p.1 lo)=true)
  (h:TK P F.n lo (PostL Y F lo l val out) c [] ⟨zipT 0 ds,l⟩):CallOk P f ds (lookM l) val out:=by
 refine CallR.ok (CallR.of (Y:=Y) (F:=F) (lo:=lo) hf hb hn hr he hl (fun h hh=>hasM_iff.1 (List.all_eq_true.1 hrf h hh)) (fun h o e=>by have:=List.all_eq_true.1 hnb _ (lookM_mem e);simpa using this) (T.mono h ?_))
 rintro e s' ⟨h1,h2⟩
 exact⟨h1,val,out,h2,rfl,rfl⟩
end Go.Lens
end
