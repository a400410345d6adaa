/- A part of the proof of PupilFieldsCardSaid, without conditions. -/
import Derived.Test.YtpfnmbpfhlllaaaGreatDoorP7
import Derived.Test.YtpfnmbpfhlllaaaGreatDoorP6
import Derived.Test.YtpfnmbpfhlllaaaGreatDoorP9
set_option linter.unusedVariables false
set_option linter.unusedSimpArgs false
set_option linter.unusedSectionVars false
set_option maxRecDepth 100000
set_option maxHeartbeats 4000000
open Go.Lib (decDigits indexByte)
section
namespace Go.Lens.Tb
open Go.Proofs Go.Lens.Un
variable [Lz] [Dn] [Kr]
attribute [local irreducible] TK PK T RG EfR Body CG
open Un Un.R
section
variable {f:List Trm} {x y s:Nb} {P W:PL} {E:Int} {u v:Rat}
theorem fs_l (h:shF f=true):f.length<=12/\∀ t∈f,t.c.length<=40:=by
 unfold shF shFA at h
 simp only[zj,XP,zG,zr,zf] at h
 exact⟨aa,h.2⟩
theorem fs_m (h:shF f=true):f.length<=1000000:=by have:=(fs_l h).1;omega
theorem sz_any (h:s.length<=40):sz (qU s).q<=161:=by
 by_cases hc:jr s=0
 ·exact sz_short hc h
 unfold qU;rw[WH hc];decide +kernel
theorem fs_s (h:shF f=true):∀ p∈plF f,sz p.2<=161:=fun p hp=>by
 obtain⟨t,ht,rfl⟩:=zE.1 hp
 exact sz_any ((fs_l h).2 t ht)
theorem fs_n (h:shF f=true):(plF f).length<=12:=by unfold plF;rw[zI];exact (fs_l h).1
theorem fs_z (h:shF f=true):szP (plF f)<=2000:=qd (szP_le (fs_n h) (fs_s h)) ah
theorem fs_o (h:shF f=true) (hc:qZ f=0):OkP (plF f):=⟨fun k hk=>by have:=kb_f hc k hk;omega,by have:=fs_n h;omega,by have:=fs_z h;omega⟩
theorem fs_d (h:shF f=true):DrOk (plF f):=by
 unfold DrOk
 have h1:=fs_n h
 have h2:=fs_z h
 exact qd (Ka (show _<=14 by omega) (show _<=3000 by omega)) ah
theorem w26p (f:List Trm) (h:shF f=true):CKa 13 [vL eY f] (vI (qZ f)):=
 w26 f (by have:=(fs_l h).1;omega) fun t ht=>by have:=(fs_l h).2 t ht;omega
end
theorem ag25:aggT tab 25=some true:=ae
theorem sz25:szT tab 25=some 2:=ae
end Go.Lens.Tb
end
section
namespace Go.Lens.Tb
open Go.Proofs Go.Lens.Un
variable [Lz] [Dn] [Kr]
attribute [local irreducible] TK PK T RG EfR Body CG
theorem w169 (f:List Trm) (hl:f.length<=1000000) (hv:∀ t∈f,KS (Zj t)):CKa 77 [vL eY f] (.tup [vI (degF f),vB (!(decide (f=[])))]):=by
 refine cG qf77 Z (nB Z) Z (E Z (B.ju Z un32) (Cp Z Z (fun h1=>?_) (fun h1=>?_)))
 ·exact Rt Z (lF Z (ZF (li eD) (lb eD)))
 exact E Z (B.ju Z un32) (E Z (B.sub Z Z eE) (E Z (B.idx (z:=trZ) (i:=(f.length-1)) Z Z un32 sz74 (fun _=>rfl) aa aa) (E Z (B.add Z Z eE) (Rt Z (lF Z (ZF (li eD) (lb eD)))))))
theorem w66 (hp:qJ) (f g:List Trm) (hlf:f.length<=1000000) (hsf:∀ t∈f,(Trm.c t).length<=1000000000) (hlg:g.length<=1000000) (hsg:∀ t∈g,(Trm.c t).length<=1000000000) (hz:ji f g=0->AddOk (plF f) (plF g)):CKa 23 [vL eY f,vL eY g] (.tup [vL eY (erL (ji f g) (polT (plF f++scl (Qn.q (Qn.ofZ 1 bg)) (plF g)))),vI (erE (ji f g) (polE (plF f++scl (Qn.q (Qn.ofZ 1 bg)) (plF g))))]):=by
 refine cL 10 [] qf23 Z (nB Z) Z Z (kc (E Z (B.nilS (enc:=eY) Z) (C Z (w124 f g hlf hsf hlg hsg) Z Z Z (Cp Z Z (fun h1=>?_) (fun h1=>?_)))))
 ·exact E Z (B.nilS (enc:=eY) Z) (Rt Z (lL Z cW))
 exact E Z (B.jx (w114k f 24 hlf (ch_f ab)) Z Z trivial Z Z) (E Z (B.jx (w114k g 26 hlg (ch_g ab)) Z Z trivial Z Z) (C Z (w100 1 bg) Z Z Z (E Z (B.jx (w102k (plF f) (plF g) (Qn.ofZ 1 bg) 24 26 28 ah ah ah (ad_z ab hz)) Z Z ⟨rfl,rfl,trivial⟩ rfl rfl) (E Z (B.jx (w104k hp ((plF f)++scl (Qn.q (Qn.ofZ 1 bg)) (plF g)) 28 (ad_ok ab hz)) Z Z ⟨rfl,trivial⟩ rfl rfl) (Rt Z (lL Z cW))))))
theorem w80 (hp:qJ) (f g:List Trm) (hlf:f.length<=1000000) (hsf:∀ t∈f,(Trm.c t).length<=1000000000) (hlg:g.length<=1000000) (hsg:∀ t∈g,(Trm.c t).length<=1000000000) (hz:ji f g=0->MulOk (plF f) (plF g)):CKa 24 [vL eY f,vL eY g] (.tup [vL eY (erL (mulE f g) (polT (qS (plF f) (plF g)))),vI (erE (mulE f g) (polE (qS (plF f) (plF g))))]):=by
 refine cL 10 [] qf24 Z (nB Z) Z Z (kc (E Z (B.nilS (enc:=eY) Z) (C Z (w124 f g hlf hsf hlg hsg) Z Z Z (Cp Z Z (fun h1=>?_) (fun h1=>?_)))))
 ·exact E Z (B.nilS (enc:=eY) Z) (Rt Z (lL Z eG))
 refine C Z (w169 f hlf (dg_k (ch_f ab))) Z Z Z (C Z (w169 g hlg (dg_k (ch_g ab))) Z Z Z ?_)
 refine Em Z Z Z Z ?_
 refine E Z (B.pA Z Z Z Z Z) ?_
 refine Em Z Z Z Z ?_
 refine Em Z Z Z Z ?_
 refine Eg Z Z (fun hc=>B.add (qu Z hc) (qu Z hc) (by have hb:=dg_b (ch_f ab);have hb2:=dg_b (ch_g ab);unfold R64;omega)) Z (Eg Z Z (fun hc=>B.gtr (qu Z hc) Z) Z (E Z (B.pA Z Z Z Z Z) (Cb Z Z (fun h2=>?_) (fun h2=>?_))))
 ·exact E Z (B.nilS (enc:=eY) Z) (Rt Z (lL Z eG))
 exact E Z (B.jx (w114k f 48 hlf (ch_f ab)) Z Z trivial Z Z) (E Z (B.jx (w114k g 50 hlg (ch_g ab)) Z Z trivial Z Z) (E Z (B.jx (w101k (plF f) (plF g) 48 50 51 ah ah ah (mu_k ab).1 (mu_k ab).2 (mu_z ab hz)) Z Z ⟨rfl,rfl,trivial⟩ rfl rfl) (E Z (B.jx (w104k hp (qS (plF f) (plF g)) 51 (mu_ok ab hz)) Z Z ⟨rfl,trivial⟩ rfl rfl) (Rt Z (lL Z eG)))))
def degR (f:List Trm):Int:=f.foldl (fun n t=>max n (t.i+t.j)) 0
section
variable {f g:List Trm} {k:Nat} {P R W:PL} {E:Int}
theorem dgr_s (hk:k<f.length):degR (f.take (k+1))=max (degR (f.take k)) (Trm.i (f.getD k trZ)+Trm.j (f.getD k trZ)):=by
 unfold degR
 rw[Qf hk,XX,ze,zm hk];rfl
theorem fs_ks (h:qZ f=0):∀ t∈f,KS (Zj t):=fun t ht=>by have:=po_t h ht;unfold KS Zj;simp only;omega
theorem scl_1 {h:R64 1}:scl (Qn.q (Qn.ofZ 1 h)) R=R:=by
 unfold scl
 rw[Qn.ofZ_q]
 rw[show (fun p:KI×Rat=>(p.1,p.2*((1:Int):Rat)))=id from funext fun p=>WA rfl (Wn _),List.map_id]
theorem fs_ad (hf:shF f=true) (hg:shF g=true):AddOk (plF f) (plF g):=by
 have h1:=fs_n hf;have h2:=fs_n hg;have h3:=fs_z hf;have h4:=fs_z hg
 refine⟨?_,aa,aa⟩
 have:((plF g).length+2)*(szP (plF g)+100)<=14*2100:=Ka aa aa
 omega
theorem fs_mu (hf:shF f=true) (hg:shF g=true):MulOk (plF f) (plF g):=by
 have h1:=fs_n hf;have h2:=fs_n hg;have h3:=fs_z hf;have h4:=fs_z hg
 have h5:(plF f).length*(plF g).length<=12*12:=Ka h1 h2
 refine⟨?_,aa⟩
 exact qd (Ka (show _<=146 by omega) (show _<=4002 by omega)) ah
end
theorem w82 (f:List Trm) (hlf:f.length<=1000000) (hv:∀ t∈f,KS (Zj t)):CKa 26 [vL eY f] (vI (degR f)):=by
 refine cL 10 [] qf26 Z (nB Z) Z Z (kc (l2 (fun (k:Nat) (n:Int)=>[(0,vL eY f),(3,vI n),(4,vI (k:Int))]) (fun _ _=>[]) (fun k n=>k<=f.length/\n=degR (List.take k f)) (fun k _=>f.length-k) 0 0 Z ?_ (sb Z Z Z) ?_))
 · exact⟨zt _,rfl⟩
 intro k n hI0
 refine E Z (B.ju Z un22) (Cp Z Z (fun h1=>?_) (fun h1=>?_))
 ·refine E Z (B.idx (z:=trZ) (i:=k) Z Z un22 sz63 (fun _=>rfl) Z aa) (E Z (B.idx (z:=trZ) (i:=k) Z Z un22 sz63 (fun _=>rfl) Z aa) (E Z (B.add Z Z eH) (E Z (B.max Z Z) (Dr Z ae (E Z (B.add Z Z eH) (pk Z (L2 (k+1) (max n ((Trm.i (f.getD k trZ))+(Trm.j (f.getD k trZ)))) ?_ ?_ (sb Z Z Z))))))))
  · (exact⟨aa,by rw[hI0.2];exact (dgr_s aa).symm⟩)
  · omega
 refine Rt Z ?_
 exact ZG (val0:=vI n) (out0:=[]) (.inr Z) ae (by exact li cA) rfl
structure DscOk (P R:PL):Prop where
 p:RfOk P
 r:RfOk R
 q:szP (qS P R)<=500000
 z:szP (qS P R)<=50000
 l:P.length*R.length<=200
 k:∀ a∈(qS P R).map (·.1),0<=a.1/\0<=a.2/\a.1+a.2<=32
def fewB (s:Nb) (n:Int):Bool:=bif (bif (bif decide (((s.length:Nat):Int)<=2*n+2) then decide (jr s=0) else false) then decide ((((decDigits (Int.natAbs (Rat.num (Qn.q (qU s))))).length:Nat):Int)<=n) else false) then decide ((((decDigits (Rat.den (Qn.q (qU s)))).length:Nat):Int)<=n) else false
def fewA (f:List Trm):Bool:=f.all fun t=>fewB t.c 6
def fewG (f:List Trm) (n:Int):Bool:=bif (bif !(shF f) then true else decide (qZ f≠0)) then true else decide (n<degR f)
def fewF (f:List Trm) (n:Int):Bool:=!(fewG f n)&&fewA f
section
variable {s:Nb} {n:Int} {f:List Trm} {k:Nat} {p q:Bool}
theorem fw_1 (hn:0<=n/\n<=1000) (h:decide (((s.length:Nat):Int)<=2*n+2)=true):s.length<=10000:=by have:=X6 h;omega
theorem fw_2 (h:(bif p then decide (jr s=0) else false)=true):jr s=0:=X6 (Zt h).2
theorem w207v (s:Nb) (hl:s.length<=10000) (h:jr s=0):CKa 141 [vS (bsO s)] (vS (bsO (Lib.itoa (Rat.num (Qn.q (qU s)))))):=by
 have g:=w207 (qU s).q (by rw[ZP h];omega)
 rwa [ZP h] at g
theorem w208v (s:Nb) (hl:s.length<=10000) (h:jr s=0):CKa 142 [vS (bsO s)] (vS (bsO (decDigits (Rat.den (Qn.q (qU s)))))):=by
 have g:=w208 (qU s).q (by rw[ZP h];omega)
 rwa [ZP h] at g
theorem w63v (s:Nb) (hl:s.length<=10000) (h:jr s=0):CKa 140 [vS (bsO (Lib.itoa (Rat.num (Qn.q (qU s)))))] (vS (bsO (decDigits (Int.natAbs (Rat.num (Qn.q (qU s))))))):=by
 refine w63 _ ?_
 have e:(txt (qU s).q).length<=10000:=by rw[ZP h];exact hl
 unfold txt at e
 rw[za] at e;omega
theorem fw_3 (h:(!p)=false):p=true:=by cases p<;>simp_all
theorem fw_5 (h:(bif !(shF f) then true else decide (qZ f≠0))=false):shF f=true/\qZ f=0:=by
 cases hs:shF f
 ·rw[hs] at h;cases h
 rw[hs] at h;exact⟨rfl,zi.1 (XM h)⟩
theorem fw_6 (h:fewG f n=false):shF f=true/\qZ f=0:=by
 unfold fewG at h
 refine fw_5 ?_
 revert h
 cases (bif !(shF f) then true else decide (qZ f≠0))<;>intro h
 ·rfl
 cases h
theorem fw_7 (h:fewG f n=false):fewF f n=fewA (f.drop 0):=by unfold fewF;rw[h,J3];rfl
theorem fw_8 (hk:k<f.length) (h:(!(fewB (Trm.c (f.getD k trZ)) 6))=false):fewA (f.drop k)=fewA (f.drop (k+1)):=by
 rw[drop_at f k trZ hk,fewA,Kh,fw_3 h];rfl
theorem fw_9 (h:fewG f n=true):false=fewF f n:=by unfold fewF;rw[h];rfl
theorem fw_10 (e:fewF f n=fewA (f.drop k)) (hk:¬(k:Int)<(f.length:Int)):true=fewF f n:=by
 rw[e,zV aa];rfl
theorem fw_11 (e:fewF f n=fewA (f.drop k)) (hk:k<f.length) (h:(!(fewB (Trm.c (f.getD k trZ)) 6))=true):false=fewF f n:=by
 rw[e,drop_at f k trZ hk,fewA,Kh,show fewB (Trm.c (f.getD k trZ)) 6=false by revert h;cases fewB (Trm.c (f.getD k trZ)) 6<;>decide];rfl
end
theorem w156 (s:Nb) (n:Int) (hn:0<=n/\n<=1000):CKa 80 [vS (bsO s),vI n] (vB (fewB s n)):=by
 refine cG qf80 Z (nB Z) Z (E Z (B.ZM (a:=s) Z un23) (E Z (B.mul Z Z bg) (E Z (B.add Z Z bg) (Eg Z Z (fun hc=>B.move Z) Z (Eg Z Z (fun hc=>B.call (w120 s (fw_1 hn (eq_of_beq hc))) Z (ds1 (qu Z hc)) Z) Z (Eg Z Z (fun hc=>B.eql (qu Z hc) Z) Z (E Z (B.pick Z Z Z (gdB Z) Z (pick_and _)) (Eg Z Z (fun hc=>B.move Z) Z (Eg Z Z (fun hc=>B.call (w207v s (fw_1 hn (Zt (eq_of_beq hc)).1) (fw_2 (eq_of_beq hc))) Z (ds1 (qu Z hc)) Z) Z (Eg Z Z (fun hc=>B.call (w63v s (fw_1 hn (Zt (eq_of_beq hc)).1) (fw_2 (eq_of_beq hc))) Z (ds1 (qu Z hc)) Z) Z (Eg Z Z (fun hc=>B.ZM (a:=(decDigits (Int.natAbs (Rat.num (Qn.q (qU s)))))) (qu Z hc) un23) Z (Eg Z Z (fun hc=>B.move Z) Z (Eg Z Z (fun hc=>B.leq (qu Z hc) (qu Z hc)) Z ?_)))))))))))))
 refine E Z (B.pick Z Z Z (gdB Z) Z (pick_and _)) (Eg Z Z (fun hc=>B.move Z) Z (Eg Z Z (fun hc=>B.call (w208v s (fw_1 hn (Zt (Zt (eq_of_beq hc)).1).1) (fw_2 (Zt (eq_of_beq hc)).1)) Z (ds1 (qu Z hc)) Z) Z (Eg Z Z (fun hc=>B.ZM (a:=(decDigits (Rat.den (Qn.q (qU s))))) (qu Z hc) un23) Z (Eg Z Z (fun hc=>B.move Z) Z (Eg Z Z (fun hc=>B.leq (qu Z hc) (qu Z hc)) Z (E Z (B.pick Z Z Z (gdB Z) Z (pick_and _)) ?_))))))
 refine Rt Z ?_
 exact leaf (val0:=vB (bif (bif (bif (decide (((s.length:Nat):Int)<=((2*n)+2))) then (decide ((jr s)=0)) else false) then (decide ((((decDigits (Int.natAbs (Rat.num (Qn.q (qU s))))).length:Nat):Int)<=n)) else false) then (decide ((((decDigits (Rat.den (Qn.q (qU s)))).length:Nat):Int)<=n)) else false)) ae (by first|rfl|exact lb Z)
theorem w85 (x y:Nb) (n:Int) (hn:0<=n/\n<=1000):CKa 30 [.pv (.agg [pS (bsO x),pS (bsO y)]),vI n] (vB (bif fewB x n then fewB y n else false)):=by
 refine cL 10 [] qf30 Z (nB Z) Z Z (kc (C Z (w156 x n aa) Z Z Z (Eg Z Z (fun hc=>B.fadB Z fa25_1 Z) Z (Eg Z Z (fun hc=>B.loadB (qu Z hc) Z Z ag23 sz23 Z) Z (Eg Z Z (fun hc=>B.move Z) Z (Eg Z Z (fun hc=>B.call (w156 y n aa) Z (ds2 (qu Z hc) (qu Z hc)) Z) Z (E Z (B.pick Z Z Z (gdB Z) Z (pick_and _)) ?_)))))))
 refine Rt Z ?_
 exact ZG (val0:=vB (bif (fewB x n) then (fewB y n) else false)) (out0:=[]) (.inr Z) ae Z rfl
theorem w65 (f:List Trm) (n:Int) (hlf:f.length<=4611686018427387904):CKa 29 [vL eY f,vI n] (vB (fewF f n)):=by
 refine cG qf29 Z (nB Z) Z (C Z (w21 f hlf) Z Z Z (Eg Z Z (fun hc=>B.move Z) Z (Eg Z Z (fun hc=>B.call (w26p f (fw_3 (by first|exact eq_of_beq hc|exact hc))) Z (ds1 (qu Z hc)) Z) Z (Eg Z Z (fun hc=>B.neq (qu Z hc) Z) Z (E Z (B.pick Z Z Z Z (gdB Z) (pick_or _)) (Eg Z Z (fun hc=>B.move Z) Z (Eg Z Z (fun hc=>B.call (w82 f (fs_m (fw_5 (eq_of_beq hc)).1) (fs_ks (fw_5 (eq_of_beq hc)).2)) Z (ds1 (qu Z hc)) Z) Z (Eg Z Z (fun hc=>B.move Z) Z (Eg Z Z (fun hc=>B.gtr (qu Z hc) (qu Z hc)) Z (E Z (B.pick Z Z Z Z (gdB Z) (pick_or _)) (Cb Z Z (fun h1=>?_) (fun h1=>?_))))))))))))
 ·refine Rt Z ?_
  exact leaf (val0:=vB false) ae eJ
 refine l1 (fun (k:Nat)=>[(0,vL eY f),(5,vI (k:Int))]) (fun _=>[]) (fun k=>k<=f.length/\fewF f n=fewA (List.drop k f)) (fun k=>f.length-k) 0 Z ?_ (sb Z Z Z) ?_
 · exact⟨zt _,fw_7 ab⟩
 intro k hI0
 refine E Z (B.ju Z un22) (Cp Z Z (fun h2=>?_) (fun h2=>?_))
 ·refine E Z (B.idx (z:=trZ) (i:=k) Z Z un22 sz63 (fun _=>rfl) Z aa) (C Z (w156 (Trm.c (f.getD k trZ)) 6 aa) Z Z Z (Cb Z Z (fun h3=>?_) (fun h3=>?_)))
  ·refine Rt Z ?_
   exact leaf (val0:=vB false) ae eJ
  refine E Z (B.add Z Z (by have h0:=fs_m (fw_6 ab).1;unfold R64;omega)) (pk Z (L1 (k+1) ?_ ?_ (sb Z Z Z)))
  · (exact⟨aa,by rw[hI0.2];exact fw_8 aa ab⟩)
  · omega
 refine Rt Z ?_
 exact leaf (val0:=vB true) ae eJ
end Go.Lens.Tb
end
section
namespace Go.Lens.Tb
open Go.Proofs Go.Lens.Un
section
variable {A B:PL} {g:KI->Rat} {a b k:KI} {ax:Int} {x y:Rat}
def NnP (A:PL):Prop:=∀ p∈A,0<=p.1.1/\0<=p.1.2
theorem lin_ext {h:KI->Rat}:∀ {A:PL},(∀ p∈A,g p.1=h p.1)->lin g A=lin h A
 | [],_=>rfl
 | (a,c)::l,e=>by
  simp only[lin]
  rw[e (a,c) ao,lin_ext fun p hp=>e p cE]
theorem lin_plus {h:KI->Rat}:∀ {A:PL},lin (fun k=>g k+h k) A=lin g A+lin h A
 | []=>by simp[lin,K0]
 | (a,c)::l=>by simp only[lin,lin_plus (A:=l)];grind
theorem lin_mulc {c:Rat}:∀ {A:PL},lin (fun k=>c*g k) A=c*lin g A
 | []=>by simp[lin,KX]
 | (a,d)::l=>by simp only[lin,lin_mulc (A:=l)];grind
theorem lin_row {d:Rat}:∀ {B:PL},lin g (rowP (a,d) B)=d*lin (fun b=>g (kadd a b)) B
 | []=>by simp[rowP,lin,KX]
 | (b,c)::l=>by
  show lin g ((kadd a b,d*c)::rowP (a,d) l)=_
  simp only[lin,lin_row (B:=l)];grind
theorem lin_prods:∀ {A:PL},lin g (qS A B)=lin (fun a=>lin (fun b=>g (kadd a b)) B) A
 | []=>rfl
 | (a,c)::l=>by
  show lin g (rowP (a,c) B++qS l B)=_
  rw[lin_app,lin_row,lin_prods (A:=l)];rfl
def dfm (ax:Int) (g:KI->Rat) (a:KI):Rat:=if 0<kax ax a then ((kax ax a:Int):Rat)*g (kdec ax a) else 0
theorem lin_der:∀ {A:PL},lin g (jO ax A)=lin (dfm ax g) A
 | []=>rfl
 | (a,c)::l=>by
  show lin g (derT ax (a,c)++jO ax l)=_
  rw[lin_app,lin_der (A:=l)]
  simp only[lin]
  unfold derT dfm
  split<;>simp only[lin]<;>grind
theorem eqv_lin (h:∀ g,lin g A=lin g B):Eqv A B:=fun _=>h _
theorem kdec_l (ax:Int) (a b:KI):kdec ax (kadd a b)=kadd (kdec ax a) b:=by
 unfold kdec kadd;split<;>(refine WA ?_ ?_<;>simp only<;>omega)
theorem kdec_r (ax:Int) (a b:KI):kdec ax (kadd a b)=kadd a (kdec ax b):=by
 unfold kdec kadd;split<;>(refine WA ?_ ?_<;>simp only<;>omega)
theorem kax_a (ax:Int) (a b:KI):kax ax (kadd a b)=kax ax a+kax ax b:=by unfold kax kadd;split<;>rfl
theorem nn_kax (h:0<=a.1/\0<=a.2):0<=kax ax a:=by unfold kax;split<;>omega
theorem dfm_a (ha:0<=kax ax a) (hb:0<=kax ax b):dfm ax g (kadd a b)=dfm ax (fun c=>g (kadd c b)) a+dfm ax (fun c=>g (kadd a c)) b:=by
 unfold dfm
 rw[kax_a]
 simp only
 rw[<-kdec_l,<-kdec_r]
 by_cases h1:0<kax ax a<;>by_cases h2:0<kax ax b
 ·rw[WK aa,WK h1,WK h2,JP,Rat.add_mul]
 ·rw[WK aa,WK h1,WJ h2,show kax ax b=0 by omega,Int.add_zero,KW]
 ·rw[WK aa,WJ h1,WK h2,show kax ax a=0 by omega,Kw,K0]
 rw[WJ aa,WJ h1,WJ h2,KW]
theorem der_prods (hA:NnP A) (hB:NnP B):Eqv (jO ax (qS A B)) (qS (jO ax A) B++qS A (jO ax B)):=eqv_lin fun g=>by
 rw[lin_der,lin_prods,lin_app,lin_prods,lin_prods,lin_der,<-lin_plus]
 refine lin_ext fun p hp=>?_
 show lin (fun b=>dfm ax g (kadd p.1 b)) B=dfm ax (fun a=>lin (fun b=>g (kadd a b)) B) p.1+lin (fun b=>g (kadd p.1 b)) (jO ax B)
 rw[lin_der,show dfm ax (fun a=>lin (fun b=>g (kadd a b)) B) p.1=lin (fun b=>dfm ax (fun c=>g (kadd c b)) p.1) B by
  unfold dfm
  split
  ·exact lin_mulc.symm
  exact (by rw[show (fun _:KI=>(0:Rat))=fun k=>(0:Rat)*(fun _=>0) k by funext;rw[K1],lin_mulc,K1]),<-lin_plus]
 exact lin_ext fun q hq=>dfm_a (nn_kax (hA p hp)) (nn_kax (hB q hq))
theorem ev_app:evP (A++B) x y=evP A x y+evP B x y:=lin_app _ _ _
theorem rpow_add (x:Rat) (m n:Nat):x ^ (m+n)=x ^ m*x ^ n:=by
 induction n with
 | zero=>rw[KD,KZ,Wn]
 | succ n ih=>rw[<-Nat.add_assoc,KY,ih,KY,Rat.mul_assoc]
theorem ev_prods (hA:NnP A) (hB:NnP B):evP (qS A B) x y=evP A x y*evP B x y:=by
 unfold evP
 rw[lin_prods]
 have e:∀ p∈A,lin (fun b=>x ^ (kadd p.1 b).1.toNat*y ^ (kadd p.1 b).2.toNat) B=(lin (fun k=>x ^ k.1.toNat*y ^ k.2.toNat) B)*(x ^ p.1.1.toNat*y ^ p.1.2.toNat):=fun p hp=>by
  rw[Rat.mul_comm,<-lin_mulc]
  refine lin_ext fun q hq=>?_
  have h1:=hA p hp
  have h2:=hB q hq
  show x ^ (p.1.1+q.1.1).toNat*y ^ (p.1.2+q.1.2).toNat=_
  rw[show (p.1.1+q.1.1).toNat=p.1.1.toNat+q.1.1.toNat by omega,show (p.1.2+q.1.2).toNat=p.1.2.toNat+q.1.2.toNat by omega,rpow_add,rpow_add]
  grind
 rw[lin_ext (h:=fun a=>(lin (fun k=>x ^ k.1.toNat*y ^ k.2.toNat) B)*(x ^ a.1.toNat*y ^ a.2.toNat)) e,lin_mulc,Rat.mul_comm]
def tfm (g:KI->Rat) (a:KI):Rat:=(if a.2%2=1 then -1 else 1)*g (a.2,a.1)
theorem lin_tur:∀ {A:PL},lin g (turP A)=lin (tfm g) A
 | []=>rfl
 | (a,c)::l=>by
  show lin g (turT (a,c)::turP l)=_
  unfold turT
  simp only[lin,lin_tur (A:=l)]
  unfold tfm
  split<;>grind
theorem neg_pow (y:Rat) (n:Nat):(-y) ^ n=(if n%2=1 then -1 else 1)*y ^ n:=by
 induction n with
 | zero=>rw[KZ,KZ,WJ ah,Rat.one_mul]
 | succ n ih=>
  rw[KY,KY,ih]
  by_cases h:n%2=1
  ·rw[WK h,WJ aa];grind
  rw[WJ h,WK aa];grind
theorem ev_tur (hA:NnP A):evP (turP A) (-y) x=evP A x y:=by
 unfold evP
 rw[lin_tur]
 refine lin_ext fun p hp=>?_
 have h:=hA p hp
 unfold tfm
 simp only
 rw[neg_pow]
 by_cases e:p.1.2%2=1
 ·rw[WK e,WK aa];grind
 rw[WJ e,WJ aa];grind
theorem tur_4 (A:PL):Eqv (turP (turP (turP (turP A)))) A:=eqv_lin fun g=>by
 rw[lin_tur,lin_tur,lin_tur,lin_tur]
 refine lin_ext fun p _=>?_
 unfold tfm
 simp only
 by_cases h1:p.1.1%2=1<;>by_cases h2:p.1.2%2=1<;>simp only[h1,h2,ql,qm]<;>grind
end
end Go.Lens.Tb
end
section
namespace Go.Lens.Tb
open Go.Proofs Go.Lens.Un
variable [Lz] [Dn]
section
variable {l r:Nb} {q p:Rat}
theorem ib_no:∀ {l:Nb},(∀ c∈l,c≠47)->indexByte l 47= -1
 | [],_=>rfl
 | c::l,h=>by
  rw[indexByte,ib_no fun x hx=>h x ap]
  have:=h c ao
  simp[this]
theorem ib_at:∀ {l:Nb},(∀ c∈l,c≠47)->indexByte (l++47::r) 47=(l.length:Int)
 | [],_=>by rw[zU,indexByte];rfl
 | c::l,h=>by
  rw[zQ,indexByte,ib_at fun x hx=>h x ap]
  have:=h c ao
  have h2:¬((l.length:Int)= -1):=aa
  simp[this,h2]
theorem cut_no (h:∀ c∈l,c≠47):q0 l=(l,[],false):=by unfold q0;rw[ib_no h,WJ ah]
theorem cut_at (h:∀ c∈l,c≠47):q0 (l++47::r)=(l,r,true):=by
 unfold q0
 rw[ib_at h,WK aa,zT,J6,List.drop_append,zM aa,zU,QU];rfl
theorem dec_47 (n:Nat):∀ c∈decDigits n,c≠47:=fun c hc e=>by
 have:=jE n c hc
 rw[e] at this
 exact absurd this.1 ah
theorem tx_trim (q:Rat):qC (txt q) [45]=decDigits q.num.natAbs++(if q.den=1 then [] else 47::decDigits q.den):=by
 unfold txt Lib.itoa
 split
 ·rfl
 rename_i h
 rw[show q.num.toNat=q.num.natAbs by omega]
 obtain⟨c,t,e⟩:=Qv (Un.ZE q.num.natAbs)
 have hc:=jE q.num.natAbs c (by rw[e];simp)
 have:¬c=45:=fun e2=>by rw[e2] at hc;exact absurd hc.1 ah
 rw[e,zQ]
 unfold qC jW
 simp[this]
theorem tx_cut1 (h:q.den=1):q0 (qC (txt q) [45])=(decDigits q.num.natAbs,[],false):=by
 rw[tx_trim,WK h,zR,cut_no (dec_47 _)]
theorem tx_cut2 (h:q.den≠1):q0 (qC (txt q) [45])=(decDigits q.num.natAbs,decDigits q.den,true):=by
 rw[tx_trim,WJ h,cut_at (dec_47 _)]
theorem dec_inj {m n:Nat} (h:decDigits m=decDigits n):m=n:=by rw[<-jG m,h,jG]
theorem dd_0:decDigits 0=[48]:=ae
theorem dd_1:decDigits 1=[49]:=ae
theorem tx_has (q:Rat) (h:jW (txt q) [45]=true):q.num<0:=by
 by_cases hn:q.num<0
 ·exact hn
 obtain⟨c,t,e⟩:=Qv (Un.ZE q.num.toNat)
 have hc:=jE q.num.toNat c (by rw[e];simp)
 have:¬c=45:=fun e2=>by rw[e2] at hc;exact absurd hc.1 ah
 unfold txt Lib.itoa at h
 rw[WJ hn,e] at h
 unfold jW at h
 simp[this] at h
theorem chk_tx (h:jk q=false):jr (txt q)=0:=by
 unfold jk longN at h
 obtain⟨h1,h2⟩:=z7.1 h
 have h1:=XM h1
 have h2:=XM h2
 have n0:jW (txt q) [45]=true->decide (decDigits q.num.natAbs≠[48])=true:=fun hh=>by
  have:=tx_has q hh
  exact zl (fun e=>by rw[<-dd_0] at e;have:=dec_inj e;omega)
 have hs:(!(jW (txt q) [45])||decide (decDigits q.num.natAbs≠[48]))=true:=by
  cases hh:jW (txt q) [45]
  ·rfl
  rw[n0 hh];rfl
 have l1:decide (600<(((decDigits q.num.natAbs).length:Nat):Int))=false:=zk aa
 have l2:decide (600<(((decDigits q.den).length:Nat):Int))=false:=zk aa
 have c1:=Zw.2 (cano_dec q.num.natAbs).1
 have c2:=Zw.2 (cano_dec q.den).1
 unfold jr j1 ZD
 by_cases hd:q.den=1
 ·rw[tx_cut1 hd]
  simp only
  rw[c1,hs,l1];rfl
 rw[tx_cut2 hd]
 simp only
 have d0:decide (decDigits q.den≠[48])=true:=zl (fun e=>by rw[<-dd_0] at e;exact absurd (dec_inj e) q.den_nz)
 have d1:decide (decDigits q.den≠[49])=true:=zl (fun e=>by rw[<-dd_1] at e;exact hd (dec_inj e))
 have g1:decide (Nat.gcd (jp (decDigits q.num.natAbs)) (jp (decDigits q.den))≠1)=false:=zk (fun e=>by rw[jG,jG] at e;exact e q.reduced)
 rw[c1,c2,hs,l1,l2,d0,d1,g1];rfl
theorem tx_inj (h:txt p=txt q):p=q:=by
 have h1:q0 (qC (txt p) [45])=q0 (qC (txt q) [45]):=by rw[h]
 have hn:p.num.natAbs=q.num.natAbs/\p.den=q.den:=by
  by_cases a:p.den=1<;>by_cases b:q.den=1
  ·rw[tx_cut1 a,tx_cut1 b] at h1
   exact⟨dec_inj (Wl h1).1,by rw[a,b]⟩
  ·rw[tx_cut1 a,tx_cut2 b] at h1
   exact absurd (Wl (Wl h1).2).2 ah
  ·rw[tx_cut2 a,tx_cut1 b] at h1
   exact absurd (Wl (Wl h1).2).2 ah
  rw[tx_cut2 a,tx_cut2 b] at h1
  exact⟨dec_inj (Wl h1).1,dec_inj (Wl (Wl h1).2).1⟩
 have hs:p.num<0↔q.num<0:=by
  have key:∀ r:Rat,r.num<0->jW (txt r) [45]=true:=fun r hr=>by
   unfold txt Lib.itoa;rw[WK hr];unfold jW;simp
  constructor
  ·intro a;exact tx_has q (by rw[<-h];exact key p a)
  intro a;exact tx_has p (by rw[h];exact key q a)
 exact Rat.ext aa hn.2
theorem val_tx (h:jk q=false):(qU (txt q)).q=q:=tx_inj (ZP (chk_tx h))
end
section
variable {P R:PL} {k:KI} {f:List Trm}
def K16 (P:PL):Prop:=∀ p∈P,0<=p.1.1/\0<=p.1.2/\p.1.1+p.1.2<=16
theorem ordP_eqv (h:Eqv P R):jd P=jd R:=by
 unfold jd
 congr 1
 funext k
 rw[h k]
theorem canT_eqv (h:Eqv P R):Zp P=Zp R:=by
 unfold Zp
 rw[ordP_eqv h]
 exact Xs fun k _=>by rw[h k]
theorem polL_eqv (h:Eqv P R):polL P=polL R:=by
 unfold polL
 rw[ordP_eqv h]
 congr 1
 funext k
 rw[h k]
theorem polT_eqv (h:Eqv P R):polT P=polT R:=by unfold polT;rw[polL_eqv h,canT_eqv h]
theorem polE_eqv (h:Eqv P R):polE P=polE R:=by unfold polE;rw[polL_eqv h]
theorem k16_mem (h:K16 P) (hk:k∈jd P):0<=k.1/\0<=k.2/\k.1+k.2<=16:=by
 have h2:=(kJ.1 hk).2
 by_cases hm:k∈P.map (·.1)
 ·obtain⟨p,hp,rfl⟩:=zE.1 hm
  exact h p hp
 exact absurd (cf_no hm) h2
theorem txz0:txt 0=[48]:=ae
theorem can_ok (hP:polL P=false) (hk:k∈jd P):jk (cf P k)=false:=by
 unfold polL at hP
 rw[XT] at hP
 exact by simpa using hP k hk
theorem can_A (h:K16 P) (hP:polL P=false) {j:Nat} (hj:j<(Zp P).length):chkA (Zp P) j=0:=by
 have hl:(Zp P).length=(jd P).length:=by unfold Zp;rw[zI]
 have e:∀ i,i<(jd P).length->(Zp P).getD i trZ=⟨txt (cf P ((jd P).getD i (0,0))),((jd P).getD i (0,0)).1,((jd P).getD i (0,0)).2⟩:=fun i hi=>by
  unfold Zp
  rw[ze,qb,zm hi,ze,zm hi];rfl
 have hm:=ki (l:=jd P) (z:=(0,0)) (k:=j) aa
 have h1:cE1 ((Zp P).getD j trZ)=0:=by
  rw[e j aa,cE1_0]
  refine⟨chk_tx (can_ok hP hm),fun e2=>?_,k16_mem h hm⟩
  rw[<-txz0] at e2
  exact (kJ.1 hm).2 (tx_inj e2)
 unfold chkA
 rw[h1,WJ]
 rintro⟨_,h2,h3⟩
 rw[e j aa,e (j-1) aa] at h3
 have:=(QG.1 (ordP_pw (P:=P))) (j-1) j aa aa aa
 rw[ze,zm (show j-1<(jd P).length by omega),ze,zm (show j<(jd P).length by omega)] at h3
 have h3:0<=ordI (jd P)[j-1] (jd P)[j]:=h3
 omega
theorem can_po (h:K16 P) (hP:polL P=false):qZ (Zp P)=0:=(ce (k:=(Zp P).length) (fun _ hj=>can_A h hP hj) (zB _)).symm
theorem can_pl (hP:polL P=false):plF (Zp P)=canP P:=by
 unfold plF Zp canP
 rw[Kz]
 refine Xs fun k hk=>?_
 show (k,(qU (txt (cf P k))).q)=(k,cf P k)
 rw[val_tx (can_ok hP hk)]
theorem pw_ext {r:KI->KI->Prop} (hr:∀ a,¬r a a) (ht:∀ a b,r a b->¬r b a):∀ {l m:List KI},l.Pairwise r->m.Pairwise r->(∀ k,k∈l↔k∈m)->l=m
 | [],[],_,_,_=>rfl
 | [],b::m,_,_,h=>absurd ((h b).2 ao) ao
 | a::l,[],_,_,h=>absurd ((h a).1 ao) ao
 | a::l,b::m,hl,hm,h=>by
  rw[List.pairwise_cons] at hl hm
  have e:a=b:=by
   by_cases e:a=b
   ·exact e
   have h1:a∈m:=by have:=(h a).1 ao;simpa [e] using this
   have h2:b∈l:=by have:=(h b).2 ao;simpa [WG e,eq_comm,e] using this
   exact absurd (hl.1 b h2) (ht _ _ (hm.1 a h1))
  subst e
  congr 1
  refine pw_ext hr ht hl.2 hm.2 fun k=>?_
  have hk:=h k
  by_cases e:k=a
  ·subst e
   exact⟨fun x=>absurd (hl.1 _ x) (hr _),fun x=>absurd (hm.1 _ x) (hr _)⟩
  simpa [e] using hk
theorem cf_plf (h:qZ f=0) {t:Trm} (ht:t∈f):cf (plF f) (Zj t)=(qU t.c).q:=by
 have hn:((plF f).map (·.1)).Nodup:=by
  have:=pw_nd (po_pw h)
  rwa [show (plF f).map (·.1)=f.map Zj by unfold plF;rw[Kz];rfl]
 have hm:(Zj t,(qU t.c).q)∈plF f:=List.mem_map_of_mem (f:=fun t:Trm=>(Zj t,(qU t.c).q)) ht
 generalize plF f=P at hn hm
 induction P with
 | nil=>cases hm
 | cons p l ih=>
  obtain⟨a,c⟩:=p
  rw[zy,JD] at hn
  rw[jI]
  rcases zF.1 hm with e|hm
  ·obtain⟨rfl,rfl⟩:=Wl e
   rw[WK rfl,cf_no hn.1,KW]
  rw[WJ (fun e=>hn.1 (by rw[e];exact zE.2 ⟨_,hm,rfl⟩)),K0]
  exact ih hn.2 hm
theorem plf_keys (f:List Trm):(plF f).map (·.1)=f.map Zj:=by unfold plF;rw[Kz];rfl
theorem can_self (h:qZ f=0):Zp (plF f)=f:=by
 have ho:jd (plF f)=f.map Zj:=by
  refine pw_ext (r:=fun a b=>ordI a b<0) (fun a=>?_) (fun a b h1=>?_) ordP_pw (po_pw h) fun k=>?_
  ·rw[ordI_lt];omega
  ·rw[ordI_lt] at h1 ⊢;omega
  rw[kJ,<-plf_keys]
  constructor
  ·intro a
   by_cases hk:k∈(plF f).map (·.1)
   ·exact hk
   exact absurd (cf_no hk) a.2
  intro hk
  rw[plf_keys] at hk
  obtain⟨t,ht,rfl⟩:=zE.1 hk
  have g:=po_t h ht
  refine⟨⟨g.2.2.1,g.2.2.2.1,by show t.i+t.j<=32;omega⟩,fun e=>?_⟩
  rw[cf_plf h ht] at e
  have:=ZP g.1
  rw[e,txz0] at this
  exact g.2.1 this.symm
 unfold Zp
 rw[ho,Kz]
 refine (Xs fun t ht=>?_).trans (List.map_id f)
 show (⟨txt (cf (plF f) (Zj t)),t.i,t.j⟩:Trm)=t
 rw[cf_plf h ht,ZP (po_t h ht).1]
end
end Go.Lens.Tb
end
section
namespace Go.Lens.Tb
open Go.Proofs Go.Lens.Un
section
variable {P R A B:PL} {k a:KI} {q:Rat} {S S1 S2:Nat} {g:KI->Rat}
theorem p600:2 ^ 1990<=10 ^ 600:=zW ae
theorem lg_sz (h:sz q<=1990):jk q=false:=by
 have key:∀ n:Nat,q9 n<=1990->longN n=false:=fun n hn=>by
  unfold longN
  refine zk ?_
  have:n<10 ^ 600:=XJ (kw n) (qd (Xj ah hn) p600)
  have:=dec_len (k:=600) ah this
  omega
 unfold sz at h
 unfold jk
 rw[key _ aa,key _ aa];rfl
theorem sz_zero:sz (0:Rat)<=1:=qd (sz_int 0) ah
theorem lin_szb (n:Nat) (hS:∀ p∈A,sz p.2+sz (g p.1)<=S):sz (lin g A)<=A.length*(S+1)+1:=by
 induction A with
 | nil=>exact qd sz_zero ao
 | cons p l ih=>
  obtain⟨b,c⟩:=p
  have h1:=hS (b,c) ao
  have h2:=ih fun p hp=>hS p cE
  simp only[lin,zb,KR]
  have:=sz_add (c*g b) (lin g l)
  have:=jv c (g b)
  simp only at h1
  omega
theorem kadd_l {a b c:KI} (h:kadd a b=kadd a c):b=c:=by
 unfold kadd at h
 have:=Wl h
 exact WA aa aa
theorem one_b (hn:(B.map (·.1)).Nodup) (hS:∀ p∈B,sz p.2<=S) (h1:1<=S):sz (lin (fun b=>if kadd a b=k then 1 else 0) B)<=S:=by
 induction B with
 | nil=>exact qd sz_zero h1
 | cons p l ih=>
  obtain⟨b,c⟩:=p
  rw[zy,JD] at hn
  simp only[lin]
  by_cases e:kadd a b=k
  ·have h0:lin (fun b=>if kadd a b=k then (1:Rat) else 0) l=lin (fun _=>(0:Rat)*0) l:=lin_ext fun p hp=>by
    rw[WJ (fun e2=>hn.1 (by rw[show b=p.1 from kadd_l (a:=a) (by rw[e,e2])];exact zE.2 ⟨p,hp,rfl⟩)),K1]
   rw[WK e,h0,lin_mulc (g:=fun _=>0),K1,Wn,KW]
   exact hS (b,c) ao
  rw[WJ e,KX,K0]
  exact ih hn.2 fun p hp=>hS p cE
theorem cf_prod_sz (hn:(B.map (·.1)).Nodup) (hA:∀ p∈A,sz p.2<=S1) (hB:∀ p∈B,sz p.2<=S2) (h1:1<=S2):sz (cf (qS A B) k)<=A.length*(S1+S2+1)+1:=by
 rw[cf_prods]
 refine lin_szb 0 fun p hp=>?_
 have:=hA p hp
 have:=one_b (a:=p.1) (k:=k) hn hB h1
 omega
theorem cf_app_sz:sz (cf (A++B) k)<=sz (cf A k)+sz (cf B k)+1:=by rw[cf_app];exact sz_add _ _
def kinc (ax:Int) (k:KI):KI:=if ax=0 then (k.1+1,k.2) else (k.1,k.2+1)
theorem lin_at {n:Rat}:lin (fun a=>if a=k then n else 0) A=n*cf A k:=by
 unfold cf
 rw[<-lin_mulc]
 exact lin_ext fun p _=>by split<;>simp[Wn,KX]
theorem cf_der2 (ax:Int):cf (jO ax A) k=(if 0<=kax ax k then ((kax ax k+1:Int):Rat) else 0)*cf A (kinc ax k):=by
 rw[cf_der,<-lin_at]
 refine lin_ext fun p _=>?_
 by_cases e:p.1=kinc ax k
 ·rw[WK e,e]
  unfold kinc kax kdec
  by_cases hx:ax=0<;>simp only[hx,ql,qm]<;>(split<;>split<;>first|rfl|(exfalso;simp at *;omega))
 rw[WJ e,WJ]
 rintro⟨_,h⟩
 refine e ?_
 rw[<-h]
 unfold kinc kdec
 split<;>(refine WA ?_ ?_<;>simp)
end
section
variable {P R A B:PL} {k a:KI} {p q x y:Rat} {N M D E C:Nat} {g:KI->Rat}
def Fr (q:Rat) (N D:Nat):Prop:=∃ (n:Int) (d:Nat),0<d/\q*((d:Int):Rat)=(n:Rat)/\n.natAbs<=N/\d<=D
theorem fr_mul (h1:Fr p N D) (h2:Fr q M E):Fr (p*q) (N*M) (D*E):=by
 obtain⟨n,d,d0,e1,n1,d1⟩:=h1
 obtain⟨m,e,e0,e2,m1,e3⟩:=h2
 refine⟨n*m,d*e,Wf d0 e0,?_,by rw[JW];exact Ka n1 m1,Ka d1 e3⟩
 rw[JR,Jx,JR,<-e1,<-e2]
 grind
theorem fr_add (h1:Fr p N D) (h2:Fr q M E):Fr (p+q) (N*E+M*D) (D*E):=by
 obtain⟨n,d,d0,e1,n1,d1⟩:=h1
 obtain⟨m,e,e0,e2,m1,e3⟩:=h2
 refine⟨n*e+m*d,d*e,Wf d0 e0,?_,?_,Ka d1 e3⟩
 ·rw[JP,JR,JR,Jx,JR,<-e1,<-e2]
  grind
 refine qd (XS _ _) ?_
 rw[JW,JW,XA,XA]
 exact J9 (Ka n1 e3) (Ka m1 d1)
theorem fr_lg (h:Fr q N D) (h1:N<2 ^ 1990) (h2:D<2 ^ 1990):jk q=false:=by
 obtain⟨n,d,d0,e,n1,d1⟩:=h
 exact lg_sz (sz_of (a:=n) (b:=(d:Int)) aa e (jj (XI n1 h1)) (jj eL))
theorem fr_lin (hE:0<E) (hC:1<=C):∀ {A:PL},(∀ p∈A,p.2.num.natAbs<=C/\p.2.den<=C)->(∀ p∈A,∃ m:Int,g p.1*((E:Int):Rat)=(m:Rat)/\m.natAbs<=M)->∃ (n:Int) (d:Nat),0<d/\lin g A*(((d:Int):Rat)*((E:Int):Rat))=(n:Rat)/\n.natAbs<=A.length*(C ^ A.length*M)/\d<=C ^ A.length
 | [],_,_=>⟨0,1,ah,by rw[lin,K1];rfl,by simp,by simp⟩
 | (a,c)::l,hc,hm=>by
  obtain⟨n,d,d0,e,n1,d1⟩:=fr_lin (A:=l) hE hC (fun p hp=>hc p cE) (fun p hp=>hm p cE)
  obtain⟨m,e2,m1⟩:=hm (a,c) ao
  obtain⟨c1,c2⟩:=hc (a,c) ao
  simp only at e2 c1 c2
  have e3:=q_mul c
  refine⟨c.num*m*d+n*c.den,c.den*d,Wf (XK c.den_nz) d0,?_,?_,?_⟩
  ·rw[lin,JP,JR,JR,JR,Jx,JR,<-e,<-e2,<-e3]
   grind
  ·refine qd (XS _ _) ?_
   rw[JW,JW,JW,XA,XA,zb,KN]
   have h1:c.num.natAbs*m.natAbs*d<=C*M*C ^ l.length:=Ka (Ka c1 m1) d1
   have h2:n.natAbs*c.den<=l.length*(C ^ l.length*M)*C:=Ka n1 c2
   refine qd (J9 h1 h2) (KG ?_)
   rw[KR]
   generalize C ^ l.length=X
   rw[show C*M*X=X*C*M by rw[KL X C,Kn,KL M X,Kn],show l.length*(X*M)*C=l.length*(X*C*M) by rw[Kn,Kn X M C,KL M C,Kn X C M],KC]
  rw[zb,KN,KL]
  exact Ka d1 c2
theorem mul_pow' (x y:Rat) (n:Nat):(x*y) ^ n=x ^ n*y ^ n:=by
 induction n with
 | zero=>rw[KZ,KZ,KZ,Wn]
 | succ n ih=>rw[KY,KY,KY,ih];grind
theorem cast_pow (z:Int) (n:Nat):((z ^ n:Int):Rat)=(z:Rat) ^ n:=by
 induction n with
 | zero=>rw[Kv,KZ];rfl
 | succ n ih=>rw[Ku,KY,JR,ih]
theorem pow_den (h1:x.num.natAbs<=C) (h2:x.den<=C) {i n:Nat} (hi:i<=n):∃ m:Int,x ^ i*((((x.den ^ n:Nat):Int)):Rat)=(m:Rat)/\m.natAbs<=C ^ n:=by
 refine⟨x.num ^ i*(x.den:Int) ^ (n-i),?_,?_⟩
 ·rw[JR,cast_pow,cast_pow,<-q_mul x,mul_pow',Jy,cast_pow,Rat.mul_assoc,<-rpow_add,show i+(n-i)=n by omega]
 rw[JW,JY,JY,XA]
 refine qd (Ka (Xx h1 i) (Xx h2 (n-i))) (KG ?_)
 rw[<-Nat.pow_add,show i+(n-i)=n by omega]
end
end Go.Lens.Tb
end
section
namespace Go.Lens.Tb
open Go.Proofs Go.Lens.Un
variable [Lz] [Dn] [Kr]
section
variable {f:List Trm} {s:Nb} {x y:Rat} {k:KI} {n:Int}
theorem dd_lt {n k:Nat} (h:(decDigits n).length<=k):n<10 ^ k:=by
 have:=kq (jE n)
 rw[jG] at this
 exact XJ this (Xj ah h)
def Six (q:Rat):Prop:=(q.num.natAbs<=1000000/\q.den<=1000000)/\sz q<=20
theorem few_q (h:fewB s 6=true):jr s=0/\Six (qU s).q:=by
 unfold fewB at h
 obtain⟨h1,h4⟩:=Zt h
 obtain⟨h1,h3⟩:=Zt h1
 obtain⟨_,h2⟩:=Zt h1
 have h3:=X6 h3
 have h4:=X6 h4
 have a:=dd_lt (k:=6) (show (decDigits (qU s).q.num.natAbs).length<=6 by omega)
 have b:=dd_lt (k:=6) (show (decDigits (qU s).q.den).length<=6 by omega)
 refine⟨X6 h2,⟨aa,aa⟩,Wt.2 ⟨?_,?_⟩⟩
 ·exact jj (XJ a ah)
 exact jj (XJ b ah)
theorem dgr_le:∀ (f:List Trm) (m:Int),m<=f.foldl (fun n t=>max n (t.i+t.j)) m/\∀ t∈f,t.i+t.j<=f.foldl (fun n t=>max n (t.i+t.j)) m
 | [],m=>⟨K3 _,fun _ h=>by cases h⟩
 | t::l,m=>by
  obtain⟨h1,h2⟩:=dgr_le l (max m (t.i+t.j))
  rw[JA]
  refine⟨aa,fun u hu=>?_⟩
  rcases zF.1 hu with rfl|hu
  ·omega
  exact h2 u hu
structure Zo (f:List Trm):Prop where
 sh:shF f=true
 ck:qZ f=0
 deg:∀ p∈plF f,0<=p.1.1/\0<=p.1.2/\p.1.1+p.1.2<=7
 six:∀ p∈plF f,Six p.2
theorem few_p (h:fewF f 7=true):Zo f:=by
 unfold fewF at h
 obtain⟨h1,h2⟩:=Bool.and_eq_true_iff.1 h
 have h1:fewG f 7=false:=by simpa using h1
 obtain⟨hs,hc⟩:=fw_6 h1
 have hd:degR f<=7:=by
  unfold fewG at h1
  by_cases e:7<degR f
  ·rw[zl e] at h1
   revert h1
   cases (bif !(shF f) then true else decide (qZ f≠0))<;>intro h1<;>cases h1
  omega
 refine⟨hs,hc,fun p hp=>?_,fun p hp=>?_⟩
 ·obtain⟨t,ht,rfl⟩:=zE.1 hp
  have g:=po_t hc ht
  have:=(dgr_le f 0).2 t ht
  unfold degR at hd
  exact⟨g.2.2.1,g.2.2.2.1,by show t.i+t.j<=7;omega⟩
 obtain⟨t,ht,rfl⟩:=zE.1 hp
 unfold fewA at h2
 exact (few_q (zr.1 h2 t ht)).2
theorem few_nn (h:Zo f):NnP (plF f):=fun p hp=>⟨(h.deg p hp).1,(h.deg p hp).2.1⟩
def bD:Nat:=1000000 ^ 12*(1000000 ^ 7*1000000 ^ 7)
def bN:Nat:=12*bD
theorem few_fr (h:Zo f) (hx:Six x) (hy:Six y):Fr (evP (plF f) x y) bN bD:=by
 have hl:(plF f).length<=12:=fs_n h.sh
 have hE:0<x.den ^ 7*y.den ^ 7:=Wf (Wj (XK x.den_nz)) (Wj (XK y.den_nz))
 obtain⟨n,d,d0,e,n1,d1⟩:=fr_lin (C:=1000000) (M:=1000000 ^ 7*1000000 ^ 7) (g:=fun k=>x ^ k.1.toNat*y ^ k.2.toNat) hE ah (A:=plF f) (fun p hp=>(h.six p hp).1) (fun p hp=>by
  have hd:=h.deg p hp
  obtain⟨m1,a1,b1⟩:=pow_den hx.1.1 hx.1.2 (i:=p.1.1.toNat) (n:=7) aa
  obtain⟨m2,a2,b2⟩:=pow_den hy.1.1 hy.1.2 (i:=p.1.2.toNat) (n:=7) aa
  refine⟨m1*m2,?_,by rw[JW];exact Ka b1 b2⟩
  rw[JR,<-a1,<-a2,Jx,JR]
  generalize (((x.den ^ 7:Nat):Int):Rat)=X
  generalize (((y.den ^ 7:Nat):Int):Rat)=Y
  grind)
 have hp:1000000 ^ (plF f).length<=1000000 ^ 12:=Xj ah hl
 refine⟨n,d*(x.den ^ 7*y.den ^ 7),Wf d0 hE,?_,?_,?_⟩
 ·rw[Jx,JR];exact e
 ·refine qd n1 ?_
  unfold bN bD
  exact Ka hl (Xh _ hp)
 unfold bD
 exact Ka (qd d1 hp) (Ka (Xx hx.1.2 7) (Xx hy.1.2 7))
variable {a b:Rat}
theorem fv_1 (h:Fr a bN bD):jk a=false:=fr_lg h (zW ae) (zW ae)
theorem fv_s (h:Fr a bN bD) (g:Fr b bN bD):jk (a+b)=false:=fr_lg (fr_add h g) (zW ae) (zW ae)
theorem fv_p (h:Fr a bN bD) (g:Fr b bN bD):jk (a*b)=false:=fr_lg (fr_mul h g) (zW ae) (zW ae)
end
section
variable {f g:List Trm} {P R A B:PL} {k:KI} {n m S:Nat} {ax:Int}
def Kd (n:Nat) (P:PL):Prop:=∀ p∈P,0<=p.1.1/\0<=p.1.2/\p.1.1+p.1.2<=(n:Int)
def Cz (n:Nat) (P:PL):Prop:=∀ k,sz (cf P k)<=n
theorem kd_app (h:Kd n P) (g:Kd n R):Kd n (P++R):=fun p hp=>(zH.1 hp).elim (h p) (g p)
theorem kd_prods (h:Kd n P) (g:Kd m R):Kd (n+m) (qS P R):=fun p hp=>by
 obtain⟨a,ha,hp⟩:=Jf.1 hp
 obtain⟨b,hb,rfl⟩:=zE.1 hp
 have:=h a ha;have:=g b hb
 show 0<=a.1.1+b.1.1/\0<=a.1.2+b.1.2/\a.1.1+b.1.1+(a.1.2+b.1.2)<=((n+m:Nat):Int)
 omega
theorem kd_tur (h:Kd n P):Kd n (turP P):=fun p hp=>by
 obtain⟨a,ha,rfl⟩:=zE.1 hp
 have:=h a ha
 show 0<=a.1.2/\0<=a.1.1/\a.1.2+a.1.1<=(n:Int)
 omega
theorem kd_mem (h:Kd n P) (hk:cf P k≠0):0<=k.1/\0<=k.2/\k.1+k.2<=(n:Int):=by
 by_cases hm:k∈P.map (·.1)
 ·obtain⟨p,hp,rfl⟩:=zE.1 hm
  exact h p hp
 exact absurd (cf_no hm) hk
theorem kd_can (h:Kd n P):Kd n (canP P):=fun p hp=>by
 obtain⟨k,hk,rfl⟩:=zE.1 hp
 exact kd_mem h (kJ.1 hk).2
theorem can_nd:((canP P).map (·.1)).Nodup:=by
 have e:(canP P).map (·.1)=jd P:=by unfold canP;rw[Kz];exact List.map_id _
 rw[e];exact pw_nd ordP_pw
theorem can_cz (h:Cz n P):∀ p∈canP P,sz p.2<=n:=fun p hp=>by
 obtain⟨k,_,rfl⟩:=zE.1 hp
 exact h k
theorem cz_nd (hn:(B.map (·.1)).Nodup) (hS:∀ p∈B,sz p.2<=S) (h1:1<=S):Cz S B:=fun k=>by
 have:=one_b (a:=(0,0)) (k:=k) hn hS h1
 unfold cf
 rwa [show (fun b:KI=>if kadd (0,0) b=k then (1:Rat) else 0)=fun b=>if b=k then 1 else 0 by
  funext b
  rw[show kadd (0,0) b=b from WA (Kw _) (Kw _)]] at this
theorem cz_prods (hn:(B.map (·.1)).Nodup) (hA:∀ p∈A,sz p.2<=n) (hB:∀ p∈B,sz p.2<=m) (h1:1<=m):Cz (A.length*(n+m+1)+1) (qS A B):=fun _=>cf_prod_sz hn hA hB h1
theorem cz_app (h:Cz n P) (g:Cz m R):Cz (n+m+1) (P++R):=fun k=>by
 have:=cf_app_sz (A:=P) (B:=R) (k:=k)
 have:=h k;have:=g k
 omega
theorem cz_eqv (e:Eqv P R) (h:Cz n P):Cz n R:=fun k=>by rw[<-e k];exact h k
theorem kinc_kax (ax:Int) (k:KI):kax ax (kinc ax k)=kax ax k+1:=by unfold kax kinc;split<;>rfl
theorem cz_der (hk:Kd 16 P) (h:Cz n P):Cz (n+5) (jO ax P):=fun k=>by
 rw[cf_der2]
 by_cases h0:cf P (kinc ax k)=0
 ·rw[h0,KX];have:=sz_zero;omega
 have hm:=kd_mem hk h0
 have hx:kax ax k+1<=16:=by rw[<-kinc_kax];unfold kax;split<;>omega
 refine qd (jv _ _) ?_
 have h2:=h (kinc ax k)
 have h3:sz (if 0<=kax ax k then ((kax ax k+1:Int):Rat) else 0)<=5:=by
  split
  ·refine qd (sz_int _) (Wt.2 ⟨jj ?_,ah⟩)
   omega
  exact qd sz_zero ah
 omega
theorem cz_lg (h:Cz 1990 P):polL P=false:=by
 unfold polL
 rw[XT]
 intro k _
 rw[lg_sz (h k)];decide
theorem cz_up (h:Cz n P) (g:n<=m):Cz m P:=fun k=>qd (h k) g
theorem len_14 (h:Kd 14 P):(canP P).length<=120:=by
 have e:(canP P).length=(jd P).length:=by unfold canP;rw[zI]
 rw[e]
 refine qd (nd_len (pw_nd ordP_pw) (r:=keys32.filter fun k=>decide (k.1+k.2<=14)) fun k hk=>?_) eM
 have h2:=kd_mem h (kJ.1 hk).2
 rw[JC]
 exact⟨(JC.1 hk).1,zl h2.2.2⟩
theorem kd16 (h:Kd n P) (hn:n<=16):K16 P:=fun p hp=>by have:=h p hp;omega
theorem kd_up (h:Kd n P) (hn:n<=m):Kd m P:=fun p hp=>by have:=h p hp;omega
end
section
variable {f g:List Trm} {P R:PL} {n m:Nat} {x y s:Nb}
structure Vd (f:List Trm) (P:PL) (n:Nat):Prop where
 ck:qZ f=0
 eqv:Eqv (plF f) P
 ok:OkP (plF f)
 fl:f.length<=1000
 kd:Kd n (plF f)
theorem Vd.cl (h:Vd f P n):∀ t∈f,t.c.length<=1000000000:=fun _ ht=>ck_l (po_t h.ck ht).1
theorem Vd.l6 (h:Vd f P n):f.length<=1000000:=by have:=h.fl;omega
theorem vd_f (h:Zo f):Vd f (plF f) 7:=⟨h.ck,Eqv.rfl,fs_o h.sh h.ck,by have:=(fs_l h.sh).1;omega,fun p hp=>by have:=h.deg p hp;omega⟩
theorem vd_can (k:Kd n P) (hn:n<=16) (hl:polL P=false) (ok:OkP (canP P)) (ok2:OkP P):Vd (Zp P) P n:=
 ⟨can_po (kd16 k hn) hl,by rw[can_pl hl];exact can_eqv ok2,by rw[can_pl hl];exact ok,by have:=ok_q ok2;unfold Zp;rw[zI];omega,by rw[can_pl hl];exact kd_can k⟩
theorem er_z {α:Type} {l:List α} {e:Int} (h:e=0):erL e l=l:=by unfold erL;rw[WJ (by rw[h];decide)]
theorem er_e {d e:Int} (h:e=0):erE e d=d:=by unfold erE;rw[WJ (by rw[h];decide)]
theorem pt_c (h:polL P=false):polT P=Zp P/\polE P=0:=by unfold polT polE;rw[h];exact⟨rfl,rfl⟩
theorem ff_z3 {a b c:Int} (h1:a=0) (h2:b=0) (h3:c=0):qK [a,b,c]=0:=by rw[h1,h2,h3];rfl
theorem ff_z2 {a b:Int} (h1:a=0) (h2:b=0):qK [a,b]=0:=by rw[h1,h2];rfl
theorem r22 (hp:qJ) (h:Vd f P n) (he:EvOk (plF f) (qU x) (qU y)) (hx:jr x=0) (hy:jr y=0) (hl:jk (evP P (qU x).q (qU y).q)=false):CKa 9 [vL eY f,.pv (.agg [pS (bsO x),pS (bsO y)])] (.tup [vS (bsO (txt (evP P (qU x).q (qU y).q))),vI 0]):=by
 have e:evP (plF f) (qU x).q (qU y).q=evP P (qU x).q (qU y).q:=h.eqv.lin _
 have w:=w22 hp f x y h.l6 h.cl (ck_l hx) (ck_l hy) fun _=>⟨h.ok,he⟩
 rw[e,er_z (ff_z3 h.ck hx hy),er_e (ff_z3 h.ck hx hy)] at w
 unfold resT resE at w
 rw[hl] at w
 exact w
theorem r24 (hp:qJ) (h:Vd f P n) (hd:DrOk (plF f)) (ha:axB s=true) (hl:polL (jO (axI s) P)=false):CKa 11 [vL eY f,vS (bsO s)] (.tup [vL eY (Zp (jO (axI s) P)),vI 0]):=by
 have w:=w24 hp f s h.l6 h.cl fun _=>⟨h.ok,hd⟩
 have z:qK [qZ f,j5 (!(axB s)) 13]=0:=ff_z2 h.ck (by rw[ha];rfl)
 rw[er_z z,er_e z,polT_eqv (h.eqv.der (axI s)),polE_eqv (h.eqv.der (axI s)),(pt_c hl).1,(pt_c hl).2] at w
 exact w
theorem r25 (hp:qJ) (h:Vd f P n) (hd:DrOk (plF f)) (hl:polL (turP P)=false):CKa 12 [vL eY f] (.tup [vL eY (Zp (turP P)),vI 0]):=by
 have w:=w25 hp f h.l6 h.cl fun _=>⟨h.ok,hd⟩
 rw[er_z h.ck,er_e h.ck,polT_eqv h.eqv.tur,polE_eqv h.eqv.tur,(pt_c hl).1,(pt_c hl).2] at w
 exact w
theorem r66 (hp:qJ) (h:Vd f P n) (k:Vd g R m) (ha:AddOk (plF f) (plF g)) (hl:polL (P++R)=false):CKa 23 [vL eY f,vL eY g] (.tup [vL eY (Zp (P++R)),vI 0]):=by
 have w:=w66 hp f g h.l6 h.cl k.l6 k.cl fun _=>ha
 have z:ji f g=0:=ff_z2 h.ck k.ck
 rw[er_z z,er_e z,scl_1,polT_eqv (h.eqv.app k.eqv),polE_eqv (h.eqv.app k.eqv),(pt_c hl).1,(pt_c hl).2] at w
 exact w
theorem vd_deg (h:Vd f P n) (h0:f≠[]):degF f<=(n:Int):=by
 have hl:=Xr.2 h0
 unfold degF
 rw[WJ h0]
 have hm:=ki (l:=f) (z:=trZ) (k:=f.length-1) aa
 exact (h.kd _ (List.mem_map_of_mem (f:=fun t:Trm=>(Zj t,(qU t.c).q)) hm)).2.2
theorem r80 (hp:qJ) (h:Vd f P n) (k:Vd g R m) (ha:MulOk (plF f) (plF g)) (hn:n+m<=16) (hl:polL (qS P R)=false):CKa 24 [vL eY f,vL eY g] (.tup [vL eY (Zp (qS P R)),vI 0]):=by
 have w:=w80 hp f g h.l6 h.cl k.l6 k.cl fun _=>ha
 have z:mulE f g=0:=by
  unfold mulE
  rw[WJ (fun e=>e (ff_z2 h.ck k.ck)),WJ]
  rintro⟨h1,h2,h3⟩
  have:=vd_deg h h1
  have:=vd_deg k h2
  omega
 rw[er_z z,er_e z,polT_eqv (h.eqv.qS k.eqv),polE_eqv (h.eqv.qS k.eqv),(pt_c hl).1,(pt_c hl).2] at w
 exact w
end
section
variable {f g:List Trm} {P R A B:PL} {n m S N:Nat} {ax:Int}
theorem kd_der1 (h:Kd (n+1) P):Kd n (jO ax P):=fun p hp=>by
 obtain⟨a,ha,hp⟩:=Jf.1 hp
 have:=h a ha
 unfold derT at hp
 split at hp
 ·rename_i h0
  rw[zg] at hp
  subst hp
  unfold kax at h0
  unfold kdec
  split<;>simp_all<;>omega
 cases hp
theorem len_13 (h:Kd 13 P):(canP P).length<=105:=by
 have e:(canP P).length=(jd P).length:=by unfold canP;rw[zI]
 rw[e]
 refine qd (nd_len (pw_nd ordP_pw) (r:=keys32.filter fun k=>decide (k.1+k.2<=13)) fun k hk=>?_) eM
 have h2:=kd_mem h (kJ.1 hk).2
 rw[JC]
 exact⟨(JC.1 hk).1,zl h2.2.2⟩
theorem can_len:(canP P).length<=P.length:=by unfold canP;rw[zI];exact ord_len
theorem okp_of (k:Kd n P) (hn:n<=16) (hl:P.length<=1000) (hs:∀ p∈P,sz p.2<=5000):OkP P:=
 ⟨fun q hq=>by obtain⟨p,hp,rfl⟩:=zE.1 hq;have:=k p hp;omega,aa,qd (szP_le hl hs) ah⟩
theorem vd_mk (k:Kd n P) (hn:n<=16) (hc:Cz 1990 P) (hl:P.length<=1000) (hs:∀ p∈P,sz p.2<=5000):Vd (Zp P) P n:=
 vd_can k hn (cz_lg hc) (okp_of (kd_can k) hn (by have:=can_len (P:=P);omega) fun p hp=>qd (can_cz hc p hp) ah) (okp_of k hn hl hs)
theorem plf_can (hc:Cz 1990 P):plF (Zp P)=canP P:=can_pl (cz_lg hc)
theorem der_sz (k:Kd 16 P) (h:∀ p∈P,sz p.2<=S):∀ p∈jO ax P,sz p.2<=S+5:=fun p hp=>by
 obtain⟨a,ha,hp⟩:=Jf.1 hp
 unfold derT at hp
 split at hp
 ·rw[zg] at hp
  subst hp
  refine qd (jv _ _) ?_
  have h1:=h a ha
  have h2:=k a ha
  have h3:sz ((kax ax a.1:Int):Rat)<=5:=qd (sz_int _) (Wt.2 ⟨jj (by unfold kax;split<;>omega),ah⟩)
  omega
 cases hp
theorem prods_szp (hA:∀ p∈A,sz p.2<=n) (hB:∀ p∈B,sz p.2<=m):∀ p∈qS A B,sz p.2<=n+m:=fun p hp=>by
 obtain⟨a,ha,hp⟩:=Jf.1 hp
 obtain⟨b,hb,rfl⟩:=zE.1 hp
 have h1:=hA a ha;have h2:=hB b hb;have:=jv a.2 b.2
 show sz (a.2*b.2)<=n+m
 omega
theorem tur_szp (h:∀ p∈P,sz p.2<=n):∀ p∈turP P,sz p.2<=n:=fun p hp=>by
 obtain⟨a,ha,rfl⟩:=zE.1 hp
 have:=h a ha
 unfold turT
 simp only
 split
 ·rw[sz_neg];exact this
 exact this
theorem cz_len (h:∀ p∈P,sz p.2<=S):Cz (P.length*(S+2)+1) P:=fun k=>by
 refine lin_szb 0 fun p hp=>?_
 have:=h p hp
 have h1:sz (if p.1=k then (1:Rat) else 0)<=1:=by
  split
  ·exact qd (sz_int 1) ah
  exact sz_zero
 omega
theorem few_l (h:Zo f):(plF f).length<=12:=fs_n h.sh
theorem few_k (h:Zo f):Kd 7 (plF f):=fun p hp=>by have:=h.deg p hp;omega
theorem few_s (h:Zo f):∀ p∈plF f,sz p.2<=20:=fun p hp=>(h.six p hp).2
theorem few_nd (h:Zo f):((plF f).map (·.1)).Nodup:=by rw[plf_keys];exact pw_nd (po_pw h.ck)
variable (a:Zo f) (b:Zo g)
include a b
theorem c_s:Cz 1990 (plF f++plF g):=cz_up (cz_app (cz_nd (few_nd a) (few_s a) ah) (cz_nd (few_nd b) (few_s b) ah)) ah
theorem c_m493:Cz 493 (qS (plF f) (plF g)):=cz_up (cz_prods (few_nd b) (few_s a) (few_s b) ah) (by have:=few_l a;have:(plF f).length*(20+20+1)<=12*41:=Xh _ this;omega)
theorem c_m:Cz 1990 (qS (plF f) (plF g)):=cz_up (c_m493 a b) ah
theorem k_m:Kd 14 (qS (plF f) (plF g)):=kd_prods (few_k a) (few_k b)
theorem v_s:Vd (Zp (plF f++plF g)) (plF f++plF g) 7:=vd_mk (kd_app (few_k a) (few_k b)) ah (c_s a b) (by rw[za];have:=few_l a;have:=few_l b;omega) fun p hp=>by
 rcases zH.1 hp with h|h
 ·have:=few_s a p h;omega
 have:=few_s b p h;omega
theorem l_m:(qS (plF f) (plF g)).length<=144:=by rw[Qa];exact Ka (few_l a) (few_l b)
theorem v_m:Vd (Zp (qS (plF f) (plF g))) (qS (plF f) (plF g)) 14:=vd_mk (k_m a b) ah (c_m a b) (by have:=l_m a b;omega) fun p hp=>by
 have:=prods_szp (few_s a) (few_s b) p hp;omega
theorem c_dm498:Cz 498 (jO ax (qS (plF f) (plF g))):=cz_der (kd_up (k_m a b) ah) (c_m493 a b)
theorem c_dm:Cz 1990 (jO ax (qS (plF f) (plF g))):=cz_up (c_dm498 a b) ah
omit b in
theorem c_d:Cz 1990 (jO ax (plF f)):=cz_up (cz_der (kd_up (few_k a) ah) (cz_nd (few_nd a) (few_s a) ah)) ah
omit b in
theorem d_sz:∀ p∈jO ax (plF f),sz p.2<=25:=der_sz (kd_up (few_k a) ah) (few_s a)
omit b in
theorem d_ln:(jO ax (plF f)).length<=12:=qd (der_len _) (few_l a)
omit b in
theorem v_d:Vd (Zp (jO ax (plF f))) (jO ax (plF f)) 6:=vd_mk (kd_der1 (few_k a)) ah (c_d a) (by have:=d_ln (ax:=ax) a;omega) fun p hp=>by have:=d_sz a p hp;omega
theorem c_one:Cz 553 (qS (jO ax (plF f)) (plF g)):=cz_up (cz_prods (few_nd b) (d_sz a) (few_s b) ah) (by have:(jO ax (plF f)).length*(25+20+1)<=12*46:=Xh _ (d_ln a);omega)
theorem c_two:Cz 553 (qS (plF f) (jO ax (plF g))):=by
 have e:Eqv (qS (plF f) (canP (jO ax (plF g)))) (qS (plF f) (jO ax (plF g))):=Eqv.qS Eqv.rfl (can_eqv (okp_of (kd_der1 (few_k b)) ah (by have:=d_ln (ax:=ax) b;omega) fun p hp=>by have:=d_sz b p hp;omega))
 refine cz_eqv e (cz_up (cz_prods can_nd (few_s a) (can_cz (cz_der (kd_up (few_k b) ah) (cz_nd (few_nd b) (few_s b) ah))) ah) ?_)
 have:(plF f).length*(20+(20+5)+1)<=12*46:=Ka (few_l a) ah
 omega
theorem v_one:Vd (Zp (qS (jO ax (plF f)) (plF g))) (qS (jO ax (plF f)) (plF g)) 13:=vd_mk (kd_prods (kd_der1 (few_k a)) (few_k b)) ah (cz_up (c_one a b) ah) (by rw[Qa];have:(jO ax (plF f)).length*(plF g).length<=12*12:=Ka (d_ln a) (few_l b);omega) fun p hp=>by
 have:=prods_szp (d_sz a) (few_s b) p hp;omega
theorem v_two:Vd (Zp (qS (plF f) (jO ax (plF g)))) (qS (plF f) (jO ax (plF g))) 13:=vd_mk (kd_prods (few_k a) (kd_der1 (few_k b))) ah (cz_up (c_two a b) ah) (by rw[Qa];have:(plF f).length*(jO ax (plF g)).length<=12*12:=Ka (few_l a) (d_ln b);omega) fun p hp=>by
 have:=prods_szp (few_s a) (d_sz b) p hp;omega
theorem e_both:Eqv (jO ax (qS (plF f) (plF g))) (qS (jO ax (plF f)) (plF g)++qS (plF f) (jO ax (plF g))):=der_prods (few_nn a) (few_nn b)
theorem c_both:Cz 1990 (qS (jO ax (plF f)) (plF g)++qS (plF f) (jO ax (plF g))):=cz_eqv (e_both a b) (c_dm a b)
end
section
variable {f g:List Trm} {P R A B:PL} {n m S N:Nat} {ax:Int} {x y s:Nb}
theorem few_len (h:fewB s 6=true):s.length<=40:=by
 unfold fewB at h
 obtain⟨h1,_⟩:=Zt h
 obtain⟨h1,_⟩:=Zt h1
 obtain⟨h1,_⟩:=Zt h1
 have:=X6 h1
 omega
theorem can_szp (hl:(canP P).length<=N) (hc:Cz S P):szP (canP P)<=N*(S+1)+1:=szP_le hl (can_cz hc)
structure FewX (x y:Nb):Prop where
 x1:fewB x 6=true
 y1:fewB y 6=true
theorem FewX.cx (h:FewX x y):jr x=0:=(few_q h.x1).1
theorem FewX.cy (h:FewX x y):jr y=0:=(few_q h.y1).1
theorem FewX.sx (h:FewX x y):Six (qU x).q:=(few_q h.x1).2
theorem FewX.sy (h:FewX x y):Six (qU y).q:=(few_q h.y1).2
theorem ev_ok (hx:FewX x y) (hl:P.length<=N) (hs:szP P<=S) (h:(N+2)*(S+5712)<=9000000):EvOk P (qU x) (qU y):=by
 unfold EvOk
 have h1:=hx.sx.2
 have h2:=hx.sy.2
 exact qd (Ka aa aa) h
theorem dr_ok (hl:P.length<=N) (hs:szP P<=S) (h:(N+2)*(S+20)<=9000000):DrOk P:=by
 unfold DrOk
 exact qd (Ka aa aa) h
theorem few_sp (h:Zo f):szP (plF f)<=12*21+1:=szP_le (few_l h) (few_s h)
theorem q22f (hp:qJ) (a:Zo f) (hx:FewX x y):CKa 9 [vL eY f,.pv (.agg [pS (bsO x),pS (bsO y)])] (.tup [vS (bsO (txt (evP (plF f) (qU x).q (qU y).q))),vI 0]):=
 r22 hp (vd_f a) (ev_ok hx (few_l a) (few_sp a) ah) hx.cx hx.cy (fv_1 (few_fr a hx.sx hx.sy))
theorem q66 (hp:qJ) (a:Zo f) (b:Zo g):CKa 23 [vL eY f,vL eY g] (.tup [vL eY (Zp (plF f++plF g)),vI 0]):=
 r66 hp (vd_f a) (vd_f b) (fs_ad a.sh b.sh) (cz_lg (c_s a b))
theorem q80 (hp:qJ) (a:Zo f) (b:Zo g):CKa 24 [vL eY f,vL eY g] (.tup [vL eY (Zp (qS (plF f) (plF g))),vI 0]):=
 r80 hp (vd_f a) (vd_f b) (fs_mu a.sh b.sh) ah (cz_lg (c_m a b))
theorem q22s (hp:qJ) (a:Zo f) (b:Zo g) (hx:FewX x y):CKa 9 [vL eY (Zp (plF f++plF g)),.pv (.agg [pS (bsO x),pS (bsO y)])] (.tup [vS (bsO (txt (evP (plF f) (qU x).q (qU y).q+evP (plF g) (qU x).q (qU y).q))),vI 0]):=by
 have hl:(canP (plF f++plF g)).length<=24:=by have:=can_len (P:=plF f++plF g);rw[za] at this;have:=few_l a;have:=few_l b;omega
 have w:=r22 hp (v_s a b) (by rw[plf_can (c_s a b)];exact ev_ok hx hl (can_szp hl (c_s a b)) ah) hx.cx hx.cy (by rw[ev_app];exact fv_s (few_fr a hx.sx hx.sy) (few_fr b hx.sx hx.sy))
 rwa [ev_app] at w
theorem m_len (a:Zo f) (b:Zo g):(canP (qS (plF f) (plF g))).length<=120:=len_14 (k_m a b)
theorem m_szp (a:Zo f) (b:Zo g):szP (canP (qS (plF f) (plF g)))<=120*494+1:=can_szp (m_len a b) (c_m493 a b)
theorem q22m (hp:qJ) (a:Zo f) (b:Zo g) (hx:FewX x y):CKa 9 [vL eY (Zp (qS (plF f) (plF g))),.pv (.agg [pS (bsO x),pS (bsO y)])] (.tup [vS (bsO (txt (evP (plF f) (qU x).q (qU y).q*evP (plF g) (qU x).q (qU y).q))),vI 0]):=by
 have w:=r22 hp (v_m a b) (by rw[plf_can (c_m a b)];exact ev_ok hx (m_len a b) (m_szp a b) ah) hx.cx hx.cy (by rw[ev_prods (few_nn a) (few_nn b)];exact fv_p (few_fr a hx.sx hx.sy) (few_fr b hx.sx hx.sy))
 rwa [ev_prods (few_nn a) (few_nn b)] at w
theorem q24f (hp:qJ) (a:Zo f) (ha:axB s=true):CKa 11 [vL eY f,vS (bsO s)] (.tup [vL eY (Zp (jO (axI s) (plF f))),vI 0]):=
 r24 hp (vd_f a) (fs_d a.sh) ha (cz_lg (c_d a))
theorem q24m (hp:qJ) (a:Zo f) (b:Zo g) (ha:axB s=true):CKa 11 [vL eY (Zp (qS (plF f) (plF g))),vS (bsO s)] (.tup [vL eY (Zp (jO (axI s) (qS (plF f) (plF g)))),vI 0]):=
 r24 hp (v_m a b) (by rw[plf_can (c_m a b)];exact dr_ok (m_len a b) (m_szp a b) ah) ha (cz_lg (c_dm a b))
theorem mu_ok2 (h1:P.length<=12) (h2:R.length<=12) (s1:szP P<=12*1991+1) (s2:szP R<=12*1991+1):MulOk P R:=by
 have h5:P.length*R.length<=12*12:=Ka h1 h2
 exact⟨qd (Ka (show _<=146 by omega) (show _<=47788 by omega)) ah,aa⟩
theorem d_cl (a:Zo f):(plF (Zp (jO ax (plF f)))).length<=12/\szP (plF (Zp (jO ax (plF f))))<=12*1991+1:=by
 rw[plf_can (c_d a)]
 have h:(canP (jO ax (plF f))).length<=12:=qd can_len (d_ln a)
 exact⟨h,can_szp h (c_d a)⟩
theorem q80a (hp:qJ) (a:Zo f) (b:Zo g):CKa 24 [vL eY (Zp (jO ax (plF f))),vL eY g] (.tup [vL eY (Zp (qS (jO ax (plF f)) (plF g))),vI 0]):=
 r80 hp (v_d a) (vd_f b) (mu_ok2 (d_cl a).1 (few_l b) (d_cl a).2 (qd (few_sp b) ah)) ah (cz_lg (cz_up (c_one a b) ah))
theorem q80b (hp:qJ) (a:Zo f) (b:Zo g):CKa 24 [vL eY f,vL eY (Zp (jO ax (plF g)))] (.tup [vL eY (Zp (qS (plF f) (jO ax (plF g)))),vI 0]):=
 r80 hp (vd_f a) (v_d b) (mu_ok2 (few_l a) (d_cl b).1 (qd (few_sp a) ah) (d_cl b).2) ah (cz_lg (cz_up (c_two a b) ah))
theorem q66b (hp:qJ) (a:Zo f) (b:Zo g):CKa 23 [vL eY (Zp (qS (jO ax (plF f)) (plF g))),vL eY (Zp (qS (plF f) (jO ax (plF g))))] (.tup [vL eY (Zp (jO ax (qS (plF f) (plF g)))),vI 0]):=by
 have k1:Kd 13 (qS (jO ax (plF f)) (plF g)):=kd_prods (kd_der1 (few_k a)) (few_k b)
 have k2:Kd 13 (qS (plF f) (jO ax (plF g))):=kd_prods (few_k a) (kd_der1 (few_k b))
 have z1:=can_szp (len_13 k1) (c_one a b)
 have z2:=can_szp (len_13 k2) (c_two a b)
 have w:=r66 hp (v_one (ax:=ax) a b) (v_two (ax:=ax) a b) (by
  rw[plf_can (cz_up (c_one a b) ah),plf_can (cz_up (c_two a b) ah)]
  have h1:=len_13 k1
  have h2:=len_13 k2
  refine⟨?_,aa,aa⟩
  have:((canP (qS (plF f) (jO ax (plF g)))).length+2)*(szP (canP (qS (plF f) (jO ax (plF g))))+100)<=107*58271:=Ka aa aa
  omega) (cz_lg (c_both a b))
 rwa [<-canT_eqv (e_both a b)] at w
end
section
variable {f g:List Trm} {k:Nat} {x y s:Nb}
def tkP (f:List Trm):Nat->PL
 | 0=>plF f
 | k+1=>turP (tkP f k)
def tkL (f:List Trm) (k:Nat):List Trm:=if k=0 then f else Zp (tkP f k)
theorem tk_len (a:Zo f):∀ k,(tkP f k).length<=12
 | 0=>few_l a
 | k+1=>by show (turP (tkP f k)).length<=12;unfold turP;rw[zI];exact tk_len a k
theorem tk_kd (a:Zo f):∀ k,Kd 7 (tkP f k)
 | 0=>few_k a
 | k+1=>kd_tur (tk_kd a k)
theorem tk_sz (a:Zo f):∀ k,∀ p∈tkP f k,sz p.2<=20
 | 0=>few_s a
 | k+1=>tur_szp (tk_sz a k)
theorem tk_cz (a:Zo f) (k:Nat):Cz 1990 (tkP f k):=cz_up (cz_len (tk_sz a k)) (by have:(tkP f k).length*(20+2)<=12*22:=Xh _ (tk_len a k);omega)
theorem tk_vd (a:Zo f):Vd (tkL f k) (tkP f k) 7:=by
 unfold tkL
 split
 ·rename_i h;subst h;exact vd_f a
 exact vd_mk (tk_kd a k) ah (tk_cz a k) (by have:=tk_len a k;omega) fun p hp=>by have:=tk_sz a k p hp;omega
theorem tk_cl (a:Zo f):(plF (tkL f k)).length<=12/\szP (plF (tkL f k))<=12*1991+1:=by
 unfold tkL
 split
 ·exact⟨few_l a,qd (few_sp a) ah⟩
 rw[plf_can (tk_cz a k)]
 have h:(canP (tkP f k)).length<=12:=qd can_len (tk_len a k)
 exact⟨h,can_szp h (tk_cz a k)⟩
theorem tk_n (a:Zo f):(tkL f k).length<=1000000:=(tk_vd a).l6
theorem q25 (hp:qJ) (a:Zo f):CKa 12 [vL eY (tkL f k)] (.tup [vL eY (tkL f (k+1)),vI 0]):=by
 have w:=r25 hp (tk_vd (k:=k) a) (dr_ok (tk_cl a).1 (tk_cl a).2 ah) (cz_lg (tk_cz a (k+1)))
 have e:tkL f (k+1)=Zp (turP (tkP f k)):=by unfold tkL;rw[WJ aa];rfl
 rw[e];exact w
theorem tk_4 (a:Zo f):tkL f 4=f:=by
 unfold tkL
 rw[WJ ah]
 exact (canT_eqv (tur_4 (plF f))).trans (can_self a.ck)
theorem six_neg {q:Rat} (h:Six q):Six (-q):=⟨⟨by rw[Wo,JX];exact h.1.1,by rw[Rat.neg_den];exact h.1.2⟩,by rw[sz_neg];exact h.2⟩
theorem six_lg {q:Rat} (h:Six q):jk q=false:=lg_sz (qd h.2 ah)
theorem q22t (hp:qJ) (a:Zo f) (hx:FewX x y):CKa 9 [vL eY (tkL f 1),.pv (.agg [pS (bsO (txt (-(qU y).q))),pS (bsO x)])] (.tup [vS (bsO (txt (evP (plF f) (qU x).q (qU y).q))),vI 0]):=by
 have h6:=six_neg hx.sy
 have hl:=six_lg h6
 have hv:=val_tx hl
 have he:EvOk (plF (tkL f 1)) (qU (txt (-(qU y).q))) (qU x):=by
  unfold EvOk
  rw[hv]
  have h1:=h6.2
  have h2:=hx.sx.2
  obtain⟨c1,c2⟩:=tk_cl (k:=1) a
  exact qd (Ka (show _<=14 by omega) (show _<=30000 by omega)) ah
 have ee:evP (tkP f 1) (qU (txt (-(qU y).q))).q (qU x).q=evP (plF f) (qU x).q (qU y).q:=by rw[hv];exact ev_tur (few_nn a)
 have w:=r22 hp (tk_vd (k:=1) a) he (chk_tx hl) hx.cx (by rw[ee];exact fv_1 (few_fr a hx.sx hx.sy))
 rwa [ee] at w
end
end Go.Lens.Tb
end
section
namespace Go.Lens.Tb
open Go.Proofs Go.Lens.Un
variable [Lz] [Dn] [Kr]
attribute [local irreducible] TK PK T RG EfR Body CG
section
variable {f g:List Trm} {x y:Nb} {k:Nat} {P:PL}
theorem fl_h (h:(bif (bif !(fewF f 7) then true else !(fewF g 7)) then true else !(bif fewB x 6 then fewB y 6 else false))=false):Zo f/\Zo g/\FewX x y:=by
 revert h
 cases e1:fewF f 7<;>cases e2:fewF g 7<;>cases e3:fewB x 6<;>cases e4:fewB y 6<;>intro h<;>first|(exact absurd h ah)|exact⟨few_p e1,few_p e2,e3,e4⟩
theorem ax_at (hk:k<2):axB (List.getD [[120],[121]] k [])=true:=by
 match k,hk with
 | 0,_=>rfl
 | 1,_=>rfl
theorem fr_sz {q:Rat} {N D:Nat} (h:Fr q N D) (h1:N<2 ^ 1990) (h2:D<2 ^ 1990):sz q<=1990:=by
 obtain⟨n,d,d0,e,n1,d1⟩:=h
 exact sz_of (a:=n) (b:=(d:Int)) aa e (jj (XI n1 h1)) (jj eL)
theorem fv_z {q:Rat} (h:Fr q bN bD):sz q<=1990:=fr_sz h (zW ae) (zW ae)
theorem txl9 {q:Rat} (h:jk q=false):(txt q).length<=10000:=by
 unfold jk longN at h
 obtain⟨h1,h2⟩:=z7.1 h
 have h1:=XM h1
 have h2:=XM h2
 unfold txt Lib.itoa
 rw[za]
 have e1:(if q.num<0 then 45::decDigits q.num.natAbs else decDigits q.num.toNat).length<=601:=by
  split
  ·rw[zb];omega
  rw[show q.num.toNat=q.num.natAbs by omega];omega
 have e2:(if q.den=1 then [] else 47::decDigits q.den).length<=601:=by
  split
  ·simp
  rw[zb];omega
 omega
theorem w61v (h:FewX x y) (a:Zo f) (b:Zo g):CKa 31 [vL eN [txt (evP (plF f) (qU x).q (qU y).q),txt (evP (plF g) (qU x).q (qU y).q)]] (vI 0):=by
 have l1:=fv_1 (few_fr a h.sx h.sy)
 have l2:=fv_1 (few_fr b h.sx h.sy)
 have w:=w61 [txt (evP (plF f) (qU x).q (qU y).q),txt (evP (plF g) (qU x).q (qU y).q)] (nB Z) (by rintro s (_|⟨_,_|⟨_,⟨⟩⟩⟩);exact txl9 l1;exact txl9 l2)
 have e:eachE jr [txt (evP (plF f) (qU x).q (qU y).q),txt (evP (plF g) (qU x).q (qU y).q)]=0:=by
  unfold eachE;simp[chk_tx l1,chk_tx l2,qK,eachE]
 rwa [e] at w
theorem w67v (h:FewX x y) (a:Zo f) (b:Zo g):CKa 32 [vS (bsO (txt (evP (plF f) (qU x).q (qU y).q))),vS (bsO (txt (evP (plF g) (qU x).q (qU y).q)))] (vS (bsO (txt (evP (plF f) (qU x).q (qU y).q+evP (plF g) (qU x).q (qU y).q)))):=
 w67 _ _ eO
theorem w69v (h:FewX x y) (a:Zo f) (b:Zo g):CKa 33 [vS (bsO (txt (evP (plF f) (qU x).q (qU y).q))),vS (bsO (txt (evP (plF g) (qU x).q (qU y).q)))] (vS (bsO (txt (evP (plF f) (qU x).q (qU y).q*evP (plF g) (qU x).q (qU y).q)))):=
 w69 _ _ eO
theorem w87v (h:FewX x y):CKa 36 [vS (bsO y)] (vS (bsO (txt (-(qU y).q)))):=by
 have w:=w87 (qU y).q (by rw[ZP h.cy];have:=few_len h.y1;omega)
 rwa [ZP h.cy] at w
theorem canT_n:(Zp P).length<=1000000:=by
 unfold Zp jd
 rw[zI]
 refine qd (Q7 _ _) ?_
 decide +kernel
theorem q22k (hp:qJ) (a:Zo f) (hx:FewX x y) (hk:k=0):CKa 9 [vL eY (tkL f (k+1)),.pv (.agg [pS (bsO (txt (-(qU y).q))),pS (bsO x)])] (.tup [vS (bsO (txt (evP (plF f) (qU x).q (qU y).q))),vI 0]):=by rw[hk];exact q22t hp a hx
theorem tk_e (hk:k=4) (a:Zo f):tkL f k=f:=by rw[hk];exact tk_4 a
theorem w86e {a b:List Trm} (e:a=b) (h:b.length<=1000000):CKa 34 [vL eY a,vL eY b] (vB true):=by
 subst e
 have w:=w86 a a h h
 rwa [zl Z] at w
end
theorem w14 (hp:qJ) (hf:jt) (f g:List Trm) (x y:Nb) (hlf:f.length<=4611686018427387904) (hlg:g.length<=4611686018427387904):CKa 6 [vL eY f,vL eY g,.pv (.agg [pS (bsO x),pS (bsO y)])] (vB true):=by
 refine cL 10 [] qf6 Z (nB Z) Z Z (kc (C Z (w65 f 7 hlf) Z Z Z (Eg Z Z (fun hc=>B.move Z) Z (Eg Z Z (fun hc=>B.call (w65 g 7 hlg) Z (ds2 (qu Z hc) Z) Z) Z (Eg Z Z (fun hc=>B.not (qu Z hc)) Z (E Z (B.pick Z Z Z Z (gdB Z) (pick_or _)) (Eg Z Z (fun hc=>B.loadBA Z Z Z ag25 sz25 Z Z) Z (Eg Z Z (fun hc=>B.call (w85 x y 6 aa) Z (ds2 (qu Z hc) Z) Z) Z (Eg Z Z (fun hc=>B.not (qu Z hc)) Z (E Z (B.pick Z Z Z Z (gdB Z) (pick_or _)) (Cb Z Z (fun h1=>?_) (fun h1=>?_))))))))))))
 ·refine C Z (w20 hp hf) Z Z Z ?_
  refine Rt Z ?_
  exact ZG (val0:=vB true) (out0:=[]) (.inr Z) ae eQ rfl
 obtain⟨Ff,Fg,hX⟩:=fl_h ab;have l6f:=fs_m Ff.sh;have l6g:=fs_m Fg.sh
 refine C Z (w23 f l6f) Z Z Z (C Z (q22f hp Ff hX) Z Z Z (Dr Z ae (C Z (w23 g l6g) Z Z Z (C Z (q22f hp Fg hX) Z Z Z (Dr Z ae (C Z (w23 f l6f) Z Z Z (C Z (w23 g l6g) Z Z Z (C Z (q66 hp Ff Fg) Z Z Z (C Z (w23 f l6f) Z Z Z (C Z (w23 g l6g) Z Z Z (C Z (q80 hp Ff Fg) Z Z Z (C Z (q22s hp Ff Fg hX) Z Z Z (C Z (q22m hp Ff Fg hX) Z Z Z ?_)))))))))))))
 refine E Z (B.add Z Z eR) (E Z (B.add Z Z eR) (E Z (B.add Z Z eR) (E Z (B.add Z Z eR) (E Z (B.add Z Z eR) ?_))))
 refine ek Z ?_
 cases h2:(decide ((((((0+0)+0)+0)+0)+0)≠0))
 ·refine Et Z Z (B.move Z) (Et Z Z (B.move Z) (Et Z Z (B.runZ (val:=.pv (.slice (List.map eN [(txt (evP (plF f) (qU x).q (qU y).q)),(txt (evP (plF g) (qU x).q (qU y).q))]))) (val0:=.aref 120 0) (m0:=[(120,.arr 0 1 23 [[pS (bsO (txt (evP (plF f) (qU x).q (qU y).q)))],[pS (bsO (txt (evP (plF g) (qU x).q (qU y).q)))]])]) (rd:=[]) ae (fun l=>Frz.arr l _ _ _ _ _) Z) (Et Z Z (B.call (w61v hX Ff Fg) Z Z Z) (Et Z Z (B.neq Z Z) (E Z (B.pkF Z Z Z Z Z) (Eg Z Z (fun hc=>B.move Z) Z (Eg Z Z (fun hc=>B.move Z) Z (Eg Z Z (fun hc=>B.move Z) Z (Eg Z Z (fun hc=>B.call (w67v hX Ff Fg) Z (ds2 (qu Z hc) (qu Z hc)) Z) Z (Eg Z Z (fun hc=>B.sneB (a:=(txt ((evP (plF f) (qU x).q (qU y).q)+(evP (plF g) (qU x).q (qU y).q)))) (b:=(txt ((evP (plF f) (qU x).q (qU y).q)+(evP (plF g) (qU x).q (qU y).q)))) (qu Z hc) (qu Z hc)) Z (E Z (B.pick Z Z Z Z (gdB Z) (pick_or _)) (Eg Z Z (fun hc=>B.move Z) Z (Eg Z Z (fun hc=>B.move Z) Z ?_)))))))))))))
  refine Eg Z Z (fun hc=>B.move Z) Z (Eg Z Z (fun hc=>B.call (w69v hX Ff Fg) Z (ds2 (qu Z hc) (qu Z hc)) Z) Z (Eg Z Z (fun hc=>B.sneB (a:=(txt ((evP (plF f) (qU x).q (qU y).q)*(evP (plF g) (qU x).q (qU y).q)))) (b:=(txt ((evP (plF f) (qU x).q (qU y).q)*(evP (plF g) (qU x).q (qU y).q)))) (qu Z hc) (qu Z hc)) Z (E Z (B.pick Z Z Z Z (gdB Z) (pick_or _)) (Cb Z Z (fun h3=>?_) (fun h3=>?_)))))
  ·refine Rt Z ?_
   exact ZG (val0:=vB false) (out0:=[]) (.inr Z) ae eQ rfl
  refine E Z (B.runZ (val:=.pv (.slice (List.map eN [[120],[121]]))) (val0:=.aref 138 0) (m0:=[(138,.arr 0 1 9 [[pS (bsO [120])],[pS (bsO [121])]])]) (rd:=[]) ae (fun l=>Frz.arr l _ _ _ _ _) Z) (E Z (B.ju Z un58) (l1 (fun (k:Nat)=>[(0,vL eY f),(1,vL eY g),(5,.bref 15 0),(7,vS (bsO (txt (evP (plF f) (qU x).q (qU y).q)))),(13,vL eY (Zp (qS (plF f) (plF g)))),(128,vL eN [[120],[121]]),(129,vI ((List.length [[120],[121]]:Nat):Int)),(130,vI (k:Int))]) (fun _=>[(15,.box 25 [vS (bsO x),vS (bsO y)])]) (fun k=>k<=2) (fun k=>2-k) 0 Z ?_ (sb Z Z Z) ?_))
  · exact zt _
  intro k hI0
  refine Cp Z Z (fun h4=>?_) (fun h4=>?_)
  ·refine E Z (B.idx (z:=[]) (i:=k) Z Z un58 sz9 (fun _=>rfl) Z eS) (C Z (w23 f l6f) Z Z Z (C Z (q24f hp Ff (ax_at eS)) Z Z Z (C Z (w23 g l6g) Z Z Z (C Z (q24f hp Fg (ax_at eS)) Z Z Z (C Z (q24m hp Ff Fg (ax_at eS)) Z Z Z (C Z (w23 g l6g) Z Z Z (C Z (q80a hp Ff Fg) Z Z Z (C Z (w23 f l6f) Z Z Z (C Z (q80b hp Ff Fg) Z Z Z (C Z (q66b hp Ff Fg) Z Z Z (E Z (B.add Z Z eR) (E Z (B.add Z Z eR) (E Z (B.add Z Z eR) ?_)))))))))))))
   refine E Z (B.add Z Z eR) (E Z (B.add Z Z eR) (Eg Z Z (fun hc=>B.move Z) Z (Eg Z Z (fun hc=>B.call (w58 (Zp (jO (axI (List.getD [[120],[121]] k [])) (qS (plF f) (plF g)))) eW) Z (ds1 (qu Z hc)) Z) Z (Eg Z Z (fun hc=>B.move Z) Z (Eg Z Z (fun hc=>B.call (w58 (Zp (jO (axI (List.getD [[120],[121]] k [])) (qS (plF f) (plF g)))) eW) Z (ds1 (qu Z hc)) Z) Z (Eg Z Z (fun hc=>B.call (w86e (by first|rfl|exact tk_e aa Ff) (by first|exact canT_n|exact l6f)) Z (ds2 (qu Z hc) (qu Z hc)) Z) Z (Eg Z Z (fun hc=>B.not (qu Z hc)) Z (E Z (B.pick Z Z Z Z (gdB Z) (pick_or _)) (Cb Z Z (fun h5=>?_) (fun h5=>?_))))))))))
   ·refine Rt Z ?_
    exact ZG (val0:=vB false) (out0:=[]) (.inr Z) ae eQ rfl
   refine E Z (B.add Z Z eR) (pk Z (L1 (k+1) ?_ ?_ (sb Z Z Z)))
   · (first|omega|(simp only[zb,zd] at *;omega))
   · first|omega|(simp only[zb,zd] at *;omega)
  refine C Z (w23 f l6f) Z Z Z (l1 (fun (k:Nat)=>[(0,vL eY f),(5,.bref 15 0),(7,vS (bsO (txt (evP (plF f) (qU x).q (qU y).q)))),(33,vL eY (tkL f k)),(197,vI (k:Int))]) (fun _=>[(15,.box 25 [vS (bsO x),vS (bsO y)])]) (fun k=>k<=4) (fun k=>4-k) 0 Z ?_ (sb Z Z Z) ?_)
  · exact zt _
  intro k hI1
  refine Cp Z Z (fun h6=>?_) (fun h6=>?_)
  ·refine C Z (q25 hp Ff) Z Z Z (CF Z Z (Cp Z Z (fun h7=>?_) (fun h7=>?_)))
   ·refine C Z (w87v hX) Z Z Z (E Z (B.run (val:=.pv (.agg [pS (bsO (txt (-(qU y).q))),pS (bsO x)])) (m:=[]) (rd:=[]) ae) (C Z (q22k hp Ff hX aa) Z Z Z (Dr Z ae (Eg Z Z (fun hc=>B.move Z) Z (Eg Z Z (fun hc=>B.move Z) Z (Eg Z Z (fun hc=>B.sneB (a:=(txt (evP (plF f) (qU x).q (qU y).q))) (b:=(txt (evP (plF f) (qU x).q (qU y).q))) (qu Z hc) (qu Z hc)) Z (E Z (B.pick Z Z Z Z (gdB Z) (pick_or _)) (Cb Z Z (fun h8=>?_) (fun h8=>?_)))))))))
    ·refine Rt Z ?_
     exact ZG (val0:=vB false) (out0:=[]) (.inr Z) ae eQ rfl
    refine E Z (B.add Z Z eR) (pk Z (L1 (k+1) ?_ ?_ (sb Z Z Z)))
    · (first|omega|(simp only[zb,zd] at *;omega))
    · first|omega|(simp only[zb,zd] at *;omega)
   refine E Z (B.add Z Z eR) (pk Z (L1 (k+1) ?_ ?_ (sb Z Z Z)))
   · (first|omega|(simp only[zb,zd] at *;omega))
   · first|omega|(simp only[zb,zd] at *;omega)
  refine C Z (w58 (tkL f k) eW) Z Z Z (C Z (w86e (by first|rfl|exact tk_e aa Ff) (by first|exact canT_n|exact l6f)) Z Z Z (Et Z Z (B.call (w20 hp hf) Z Z Z) (E Z (B.pick Z Z Z Z Z (pick_tt _)) ?_)))
  refine Rt Z ?_
  exact ZG (val0:=vB (bif true then true else false)) (out0:=[]) (.inr Z) ae eQ rfl
 exact absurd (by assumption:decide ((0+0+0+0+0+0:Int)≠0)=true) ah
end Go.Lens.Tb
end
