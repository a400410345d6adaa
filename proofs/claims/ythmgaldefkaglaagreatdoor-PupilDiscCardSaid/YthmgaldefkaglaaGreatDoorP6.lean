/- A part of the proof of PupilDiscCardSaid, without conditions. -/
import Derived.Test.YthmgaldefkaglaaGreatDoorP5
set_option linter.unusedVariables false
set_option linter.unusedSimpArgs false
set_option linter.unusedSectionVars false
set_option maxHeartbeats 4000000
section
namespace Go.Lens.Tb
open Go.Proofs Go.Lens.Un
variable [Lz] [Dn]
set_option maxRecDepth 100000
attribute [local irreducible] TK PK T RG EfR Body CG
structure Van where
 x:Int
 y:Int
 l:Int
 b:List UInt8
structure Pu where
 n:Int
 a:List UInt8
 h:List UInt8
 v:List Van
abbrev eV (v:Van):List PV:=[pI (Van.x v),pI (Van.y v),pI (Van.l v),pS (bsO (Van.b v))]
def vaZ:Van:=⟨0,0,0,[]⟩
def posQ (x:Qn):Bool:=decide (0<jz (Qn.q x).num)
def fitQ (o x:Qn):Bool:=bif decide (0<=jz (Qn.q x).num) then decide (cmpQ2 (Qn.q x) (Qn.q o)<0) else false
def posE (a:List UInt8):Int:=if jg a≠0 then jg a else qR (!(posQ (qJ a))) 3
def fitE (o:Qn) (a:List UInt8):Int:=if jg a≠0 then jg a else qR (!(fitQ o (qJ a))) 3
def vanE1 (v:Van):Int:=qB [qF (Van.x v) (-10000) 10000,qF (Van.y v) (-10000) 10000,qF (Van.l v) 1 10000]
def vanE (v:Van):Int:=if vanE1 v≠0 then vanE1 v else qB [qR (decide (Van.x v*Van.x v+Van.y v*Van.y v≠Van.l v*Van.l v)) 18,posE (Van.b v)]
section
variable {a:List UInt8} {o:Qn} {v:Van}
theorem nu_1 (h:jg a≠0):vI (jg a)=vI (posE a):=by unfold posE;rw[if_pos h]
theorem nu_2 (h:¬jg a≠0):vI (qR (!(posQ (qJ a))) 3)=vI (posE a):=by unfold posE;rw[if_neg h]
theorem nf_1 (h:jg a≠0):vI (jg a)=vI (fitE o a):=by unfold fitE;rw[if_pos h]
theorem nf_2 (h:¬jg a≠0):vI (qR (!(fitQ o (qJ a))) 3)=vI (fitE o a):=by unfold fitE;rw[if_neg h]
theorem va1_1 (h:vanE1 v≠0):vanE1 v=vanE v:=by unfold vanE;rw[if_pos h]
theorem va1_2 (h:¬vanE1 v≠0):qB [qR (decide (Van.x v*Van.x v+Van.y v*Van.y v≠Van.l v*Van.l v)) 18,posE (Van.b v)]=vanE v:=by unfold vanE;rw[if_neg h]
theorem va1_b (h:¬vanE1 v≠0):(-10000<=Van.x v/\Van.x v<=10000)/\(-10000<=Van.y v/\Van.y v<=10000)/\(1<=Van.l v/\Van.l v<=10000):=by
 have h:=zi.1 h
 unfold vanE1 at h
 rw[kL,kL,kL,wi_0,wi_0,wi_0] at h
 exact⟨h.1,h.2.1,h.2.2.1⟩
theorem sq_b {z:Int} (h: -10000<=z/\z<=10000):0<=z*z/\z*z<=100000000:=by
 refine⟨by rcases Int.le_total 0 z with h0|h0;exact Int.mul_nonneg h0 h0;exact Int.mul_nonneg_of_nonpos_of_nonpos h0 h0,?_⟩
 rcases Int.le_total 0 z with h0|h0
 ·have:=Int.mul_le_mul h.2 h.2 h0 ah;omega
 have h1:=Int.mul_le_mul (show -z<=10000 by omega) (show -z<=10000 by omega) aa ah
 rw[Int.neg_mul_neg] at h1;omega
theorem va1_m (h:¬vanE1 v≠0):R64 (Van.x v*Van.x v)/\R64 (Van.y v*Van.y v)/\R64 (Van.x v*Van.x v+Van.y v*Van.y v)/\R64 (Van.l v*Van.l v):=by
 have hb:=va1_b h
 have h1:=sq_b hb.1
 have h2:=sq_b hb.2.1
 have h3:=sq_b (z:=Van.l v) aa
 unfold R64
 omega
section
variable {p:Pu}
def puE1 (p:Pu):Int:=qB [qF (Pu.n p) 2 16,posE (Pu.a p)]
def puE (p:Pu):Int:=if puE1 p≠0 then puE1 p else qB [fitE (qJ (Pu.a p)) (Pu.h p),qR (decide (8<(((Pu.v p).length:Nat):Int))) 5,jn vanE (Pu.v p)]
theorem cp_1 (h:puE1 p≠0):puE1 p=puE p:=by unfold puE;rw[if_pos h]
theorem cp_2 (h:¬puE1 p≠0):qB [fitE (qJ (Pu.a p)) (Pu.h p),qR (decide (8<(((Pu.v p).length:Nat):Int))) 5,jn vanE (Pu.v p)]=puE p:=by unfold puE;rw[if_neg h]
theorem cp_a (h:¬puE1 p≠0):jg (Pu.a p)=0:=by
 have h:=zi.1 h
 unfold puE1 at h
 rw[kL,kL] at h
 have h2:=h.2.1
 unfold posE at h2
 by_cases e:jg (Pu.a p)=0
 ·exact e
 rw[if_pos e] at h2;exact h2
end
end
theorem ag122:aggT tab 122=some true:=ae
theorem ag64:aggT tab 64=some false:=ae
theorem fa122_3:fadQ tab 122 3=some 3:=ae
theorem fa66_3:fadQ tab 66 3=some 3:=ae
theorem sz122:szT tab 122=some 4:=ae
theorem sz64:szT tab 64=some 1:=ae
theorem un64:tab.underlying 64=some (.slice 122):=ae
theorem w164 (x:Qn) (hx:sz (Qn.q x)<=62):CKa 164 [.pv (.agg [pI (Qn.n x),.lit (.slice none 0 0),pI (Qn.d x),.lit (.slice none 0 0)])] (vB (posQ x)):=by
 exact cG qf164 Z (nB Z) Z (C Z (w145 x hx) Z Z Z (Rt Z (leaf (val0:=vB (decide (0<(jz (Qn.q x).num)))) ae (lb bi))))
theorem w165 (x o:Qn) (hx:sz (Qn.q x)<=62) (ho:sz (Qn.q x)+sz (Qn.q o)<=62):qD Tryz.prog 165 [.pv (.agg [pI (Qn.n x),.lit (.slice none 0 0),pI (Qn.d x),.lit (.slice none 0 0)]),.bref 14 0] (qw [(14,.box 156 [vI (Qn.n o),.pv (.lit (.slice none 0 0)),vI (Qn.d o),.pv (.lit (.slice none 0 0))])]) (vB (fitQ o x)) [(14,.box 156 [vI (Qn.n o),.pv (.lit (.slice none 0 0)),vI (Qn.d o),.pv (.lit (.slice none 0 0))])]:=by
 refine cL 15 [(14,.box 156 [vI (Qn.n o),.pv (.lit (.slice none 0 0)),vI (Qn.d o),.pv (.lit (.slice none 0 0))])] qf165 Z (nB Z) Z Z (kc (C Z (w145 x hx) Z Z Z (Eg Z Z (fun hc=>B.loadBA Z Z Z ag156 kr Z Z) Z (Eg Z Z (fun hc=>B.loadBA Z Z Z ag156 kr Z Z) Z (Eg Z Z (fun hc=>B.call (w166 x o ho) Z (ds2 (qz Z hc) (qz Z hc)) Z) Z (Eg Z Z (fun hc=>B.lss (qz Z hc) Z) Z (E Z (B.pick Z Z Z (gdB Z) Z (q0 _)) ?_)))))))
 refine Rt Z ?_
 exact q5 (val0:=vB (bif (decide (0<=(jz (Qn.q x).num))) then (decide ((cmpQ2 (Qn.q x) (Qn.q o))<0)) else false)) (out0:=[(14,.box 156 [vI (Qn.n o),.pv (.lit (.slice none 0 0)),vI (Qn.d o),.pv (.lit (.slice none 0 0))])]) (.inr Z) ae bi bi
theorem w163p (a:List UInt8) (hs:List.length a<=18) (hz:jg a=0->sz (Qn.q (qJ a))<=62):CKa 163 [vS (bsO a),.pv (.fn (.func 164) [] [])] (vI (posE a)):=by
 refine cG qf163 Z (nB Z) Z (C Z (w112 a hs) Z Z Z (Cp Z Z (fun h1=>?_) (fun h1=>?_)))
 ·refine Rt Z ?_
  exact leaf (val0:=vI (jg a)) ae cK
 refine C Z (w116 a (zi.1 ab)) Z Z Z (C Z (w164 (qJ a) (hz (zi.1 ab))) Z Z Z (C Z (w99 (!(posQ (qJ a))) 3) Z Z Z ?_))
 refine Rt Z ?_
 exact leaf (val0:=vI (qR (!(posQ (qJ a))) 3)) ae cK
theorem w163q (a:List UInt8) (o:Qn) (hs:List.length a<=18) (hz:jg a=0->sz (Qn.q (qJ a))+sz (Qn.q o)<=62):qD Tryz.prog 163 [vS (bsO a),.clos (.func 165) [] [.bref 14 0]] (qw [(14,.box 156 [vI (Qn.n o),.pv (.lit (.slice none 0 0)),vI (Qn.d o),.pv (.lit (.slice none 0 0))])]) (vI (fitE o a)) [(14,.box 156 [vI (Qn.n o),.pv (.lit (.slice none 0 0)),vI (Qn.d o),.pv (.lit (.slice none 0 0))])]:=by
 refine cL 15 [(14,.box 156 [vI (Qn.n o),.pv (.lit (.slice none 0 0)),vI (Qn.d o),.pv (.lit (.slice none 0 0))])] qf163 Z (nB Z) Z Z (kc (C Z (w112 a hs) Z Z Z (Cp Z Z (fun h1=>?_) (fun h1=>?_))))
 ·refine Rt Z ?_
  exact q5 (val0:=vI (jg a)) (out0:=[(14,.box 156 [vI (Qn.n o),.pv (.lit (.slice none 0 0)),vI (Qn.d o),.pv (.lit (.slice none 0 0))])]) (.inr Z) ae cM bi
 refine C Z (w116 a (zi.1 ab)) Z Z Z (E Z (B.q6 (l:=[(14,.box 156 [vI (Qn.n o),.pv (.lit (.slice none 0 0)),vI (Qn.d o),.pv (.lit (.slice none 0 0))])]) (w165 (qJ a) o (by have:=hz (zi.1 ab);omega) (hz (zi.1 ab))) Z Z ⟨rfl,trivial⟩ rfl rfl) (C Z (w99 (!(fitQ o (qJ a))) 3) Z Z Z ?_))
 refine Rt Z ?_
 exact q5 (val0:=vI (qR (!(fitQ o (qJ a))) 3)) (out0:=[(14,.box 156 [vI (Qn.n o),.pv (.lit (.slice none 0 0)),vI (Qn.d o),.pv (.lit (.slice none 0 0))])]) (.inr Z) ae cM bi
theorem w168 (v:Van) (hs:List.length (Van.b v)<=18) (hz:jg (Van.b v)=0->sz (Qn.q (qJ (Van.b v)))<=62):CKa 168 [.pv (.agg [pI (Van.x v),pI (Van.y v),pI (Van.l v),pS (bsO (Van.b v))])] (vI (vanE v)):=by
 refine cG qf168 Z (nB Z) Z (C Z (w97 (Van.x v) (-10000) 10000) Z Z Z (C Z (w97 (Van.y v) (-10000) 10000) Z Z Z (C Z (w97 (Van.l v) 1 10000) Z Z Z (E Z (B.ja (val:=.pv (.slice (List.map eI [(qF (Van.x v) (-10000) 10000),(qF (Van.y v) (-10000) 10000),(qF (Van.l v) 1 10000)]))) Z (fun l=>Frz.arr l _ _ _ _ _) Z) (C Z (w98 [(qF (Van.x v) (-10000) 10000),(qF (Van.y v) (-10000) 10000),(qF (Van.l v) 1 10000)] (nB Z)) Z Z Z (Dr Z ae (Cp Z Z (fun h1=>?_) (fun h1=>?_))))))))
 ·refine Rt Z ?_
  exact leaf (val0:=vI (qB [(qF (Van.x v) (-10000) 10000),(qF (Van.y v) (-10000) 10000),(qF (Van.l v) 1 10000)])) ae cN
 refine E Z (B.mul Z Z cP) (E Z (B.mul Z Z cP) (E Z (B.add Z Z cP) (E Z (B.mul Z Z cP) (C Z (w99 (decide ((((Van.x v)*(Van.x v))+((Van.y v)*(Van.y v)))≠((Van.l v)*(Van.l v)))) 18) Z Z Z (E Z (B.q6 (l:=[]) (w163p (Van.b v) hs hz) Z Z trivial Z Z) (E Z (B.ja (val:=.pv (.slice (List.map eI [(qR (decide ((((Van.x v)*(Van.x v))+((Van.y v)*(Van.y v)))≠((Van.l v)*(Van.l v)))) 18),(posE (Van.b v))]))) Z (fun l=>Frz.arr l _ _ _ _ _) Z) (C Z (w98 [(qR (decide ((((Van.x v)*(Van.x v))+((Van.y v)*(Van.y v)))≠((Van.l v)*(Van.l v)))) 18),(posE (Van.b v))] (nB Z)) Z Z Z (Dr Z ae ?_))))))))
 refine Rt Z ?_
 exact leaf (val0:=vI (qB [(qR (decide ((((Van.x v)*(Van.x v))+((Van.y v)*(Van.y v)))≠((Van.l v)*(Van.l v)))) 18),(posE (Van.b v))])) ae cN
theorem w167 (l:List Van) (hl:List.length l<=1000000) (hs:∀ v∈l,List.length (Van.b v)<=18) (hz:∀ v∈l,jg (Van.b v)=0->sz (Qn.q (qJ (Van.b v)))<=62):CKa 167 [vL eV l,.pv (.fn (.func 168) [] [])] (vI (jn vanE l)):=by
 refine cG qf167 Z (nB Z) Z (E Z (B.jW Z un64) (l1 (fun (k:Nat)=>[(1,.pv (.fn (.func 168) [] [])),(8,vL eV l),(9,vI ((l.length:Nat):Int)),(10,vI ((k:Nat):Int))]) (fun _=>[]) (fun k=>k<=List.length l/\jn vanE l=jn vanE (List.drop k l)) (fun k=>List.length l-k) 0 Z ?_ (sb Z Z Z) ?_))
 · exact⟨zw _,rfl⟩
 intro k hI0
 refine Cp Z Z (fun h1=>?_) (fun h1=>?_)
 ·refine E Z (B.idx (z:=vaZ) (i:=k) Z Z un64 sz122 (fun _=>rfl) Z aa) (C Z (w168 (l.getD k vaZ) (hs _ (jf aa)) (hz _ (jf aa))) Z Z Z (Cp Z Z (fun h2=>?_) (fun h2=>?_)))
  ·exact Rt Z (leaf (val0:=vI (vanE (l.getD k vaZ))) ae (li bO))
  refine E Z (B.add Z Z bj) (pk Z (L1 (k+1) ?_ ?_ (sb Z Z Z)))
  · (exact⟨aa,by rw[hI0.2];exact ea_step aa ab⟩)
  · omega
 exact Rt Z (leaf (val0:=vI 0) ae (li bO))
theorem w76 (p:Pu) (ha:List.length (Pu.a p)<=18) (haz:jg (Pu.a p)=0->sz (Qn.q (qJ (Pu.a p)))<=62) (hh:List.length (Pu.h p)<=18) (hhz:jg (Pu.a p)=0->jg (Pu.h p)=0->sz (Qn.q (qJ (Pu.h p)))+sz (Qn.q (qJ (Pu.a p)))<=62) (hl:List.length (Pu.v p)<=1000000) (hv:∀ v∈Pu.v p,List.length (Van.b v)<=18) (hvz:∀ v∈Pu.v p,jg (Van.b v)=0->sz (Qn.q (qJ (Van.b v)))<=62):CKa 76 [.pv (.agg [pI (Pu.n p),pS (bsO (Pu.a p)),pS (bsO (Pu.h p)),pL eV (Pu.v p)])] (vI (puE p)):=by
 refine cL 10 [] qf76 Z (nB Z) Z Z (kc (C Z (w97 (Pu.n p) 2 16) Z Z Z (E Z (B.q6 (l:=[]) (w163p (Pu.a p) ha haz) Z Z trivial Z Z) (E Z (B.ja (val:=.pv (.slice (List.map eI [(qF (Pu.n p) 2 16),(posE (Pu.a p))]))) (val0:=.aref 22 0) (m0:=[(22,.arr 0 1 24 [[pI (qF (Pu.n p) 2 16)],[pI (posE (Pu.a p))]])]) (rd:=[]) ae (fun l=>Frz.arr l _ _ _ _ _) Z) (C Z (w98 [(qF (Pu.n p) 2 16),(posE (Pu.a p))] (nB Z)) Z Z Z (Dr Z ae (Cp Z Z (fun h1=>?_) (fun h1=>?_))))))))
 ·refine Rt Z ?_
  exact q5 (val0:=vI (qB [(qF (Pu.n p) 2 16),(posE (Pu.a p))])) (out0:=[]) (.inr Z) ae cQ rfl
 refine C Z (w116 (Pu.a p) (cp_a ab)) Z Z Z (E Z (B.ja Z (fun l=>Frz.jU l Z) Z) (E Z (B.q6 (l:=[(14,.box 156 [vI (Qn.n (qJ (Pu.a p))),.pv (.lit (.slice none 0 0)),vI (Qn.d (qJ (Pu.a p))),.pv (.lit (.slice none 0 0))])]) (w163q (Pu.h p) (qJ (Pu.a p)) hh (hhz (cp_a ab))) Z Z ⟨rfl,trivial⟩ rfl rfl) (E Z (B.jW Z un64) (C Z (w99 (decide (8<((List.length (Pu.v p):Nat):Int))) 5) Z Z Z (C Z (w167 (Pu.v p) hl hv hvz) Z Z Z (E Z (B.ja (val:=.pv (.slice (List.map eI [(fitE (qJ (Pu.a p)) (Pu.h p)),(qR (decide (8<((List.length (Pu.v p):Nat):Int))) 5),(jn vanE (Pu.v p))]))) (val0:=.aref 43 0) (m0:=[(43,.arr 0 1 24 [[pI (fitE (qJ (Pu.a p)) (Pu.h p))],[pI (qR (decide (8<((List.length (Pu.v p):Nat):Int))) 5)],[pI (jn vanE (Pu.v p))]])]) (rd:=[]) ae (fun l=>Frz.arr l _ _ _ _ _) Z) (C Z (w98 [(fitE (qJ (Pu.a p)) (Pu.h p)),(qR (decide (8<((List.length (Pu.v p):Nat):Int))) 5),(jn vanE (Pu.v p))] (nB Z)) Z Z Z (Dr Z ae ?_))))))))
 refine Rt Z ?_
 exact q5 (val0:=vI (qB [(fitE (qJ (Pu.a p)) (Pu.h p)),(qR (decide (8<((List.length (Pu.v p):Nat):Int))) 5),(jn vanE (Pu.v p))])) (out0:=[]) (.inr Z) ae cQ rfl
def VS (v:Van):Prop:=v.x.natAbs<=15/\v.y.natAbs<=15/\v.l.natAbs<=15
def jc (n c:Int):Qn:=mkQ (2*c+1-n) n
def cov8 (v:Van) (x y:Qn):Qn:=Qn.add (Qn.mul x (Qn.ofI (Van.x v))) (Qn.mul y (Qn.ofI (Van.y v)))
def cov9 (v:Van) (x y:Qn):Qn:=Qn.sub (Qn.mul y (Qn.ofI (Van.x v))) (Qn.mul x (Qn.ofI (Van.y v)))
def covA (v:Van) (x y:Qn):Qn:=if jz (cov9 v x y).q.num<0 then Qn.neg (cov9 v x y) else cov9 v x y
def covB (v:Van) (x y:Qn):Bool:=bif decide (0<=jz (cov8 v x y).q.num) then decide (cmpQ2 (covA v x y).q (Qn.mul (qJ (Van.b v)) (Qn.ofI (Van.l v))).q<0) else false
section
variable {v:Van} {x y:Qn}
theorem ofI_4 {n:Int} (h:n.natAbs<=15):sz (Qn.ofI n).q<=4:=qh (sz_int n) (Nat.max_le.2 ⟨jb aa,ah⟩)
theorem co_z (_:¬vanE1 v≠0) (hx:sz (Qn.q x)<=13) (hy:sz (Qn.q y)<=13) (hz:sz (Qn.q (qJ (Van.b v)))<=9/\VS v):sz x.q+sz (Qn.ofI v.x).q<=62/\sz y.q+sz (Qn.ofI v.y).q<=62/\sz (Qn.mul x (Qn.ofI v.x)).q+sz (Qn.mul y (Qn.ofI v.y)).q<=62/\sz y.q+sz (Qn.ofI v.x).q<=62/\sz x.q+sz (Qn.ofI v.y).q<=62/\sz (Qn.mul y (Qn.ofI v.x)).q+sz (Qn.mul x (Qn.ofI v.y)).q<=62/\
  sz (cov9 v x y).q<=62/\sz (cov8 v x y).q<=62/\sz (qJ v.b).q+sz (Qn.ofI v.l).q<=62/\sz (Qn.neg (cov9 v x y)).q+sz (Qn.mul (qJ v.b) (Qn.ofI v.l)).q<=62/\sz (cov9 v x y).q+sz (Qn.mul (qJ v.b) (Qn.ofI v.l)).q<=62:=by
 have s1:=ofI_4 hz.2.1
 have s2:=ofI_4 hz.2.2.1
 have s3:=ofI_4 hz.2.2.2
 have hz:=hz.1
 have m1:=sz_mul x.q (Qn.ofI v.x).q
 have m2:=sz_mul y.q (Qn.ofI v.y).q
 have m3:=sz_mul y.q (Qn.ofI v.x).q
 have m4:=sz_mul x.q (Qn.ofI v.y).q
 have m5:=sz_mul (qJ v.b).q (Qn.ofI v.l).q
 have a1:=sz_add (x.q*(Qn.ofI v.x).q) (y.q*(Qn.ofI v.y).q)
 have a2:=sz_sub (y.q*(Qn.ofI v.x).q) (x.q*(Qn.ofI v.y).q)
 unfold cov8 cov9
 simp only[Qn.j6,Qn.add_q,Qn.sub_q,Qn.neg_q,sz_neg]
 omega
theorem co_1 (h:jz (cov9 v x y).q.num<0):vB (bif decide (0<=jz (cov8 v x y).q.num) then decide (cmpQ2 (Qn.neg (cov9 v x y)).q (Qn.mul (qJ (Van.b v)) (Qn.ofI (Van.l v))).q<0) else false)=vB (covB v x y):=by unfold covB covA;rw[if_pos h]
theorem co_2 (h:¬jz (cov9 v x y).q.num<0):vB (bif decide (0<=jz (cov8 v x y).q.num) then decide (cmpQ2 (cov9 v x y).q (Qn.mul (qJ (Van.b v)) (Qn.ofI (Van.l v))).q<0) else false)=vB (covB v x y):=by unfold covB covA;rw[if_neg h]
end
theorem w135 (p:Pu) (c r:Int) (hn:2<=Pu.n p/\Pu.n p<=16) (hc:0<=c/\c<=100) (hr:0<=r/\r<=100):CKa 135 [.pv (.agg [pI (Pu.n p),pS (bsO (Pu.a p)),pS (bsO (Pu.h p)),pL eV (Pu.v p)]),vI c,vI r] (.pv (.agg [pI (Qn.n (jc (Pu.n p) c)),.lit (.slice none 0 0),pI (Qn.d (jc (Pu.n p) c)),.lit (.slice none 0 0),pI (Qn.n (jc (Pu.n p) r)),.lit (.slice none 0 0),pI (Qn.d (jc (Pu.n p) r)),.lit (.slice none 0 0)])):=by
 refine cG qf135 Z (nB Z) Z (E Z (B.ja Z (fun l=>Frz.jU l Z) Z) (C Z (w177 (Pu.n p)) Z Z Z (E Z (B.ja Z (fun l=>Frz.jU l Z) Z) (E Z (B.mul Z Z bj) (E Z (B.add Z Z bj) (E Z (B.sub Z Z bj) (C Z (w177 (((2*c)+1)-(Pu.n p))) Z Z Z (C Z (w179z (((2*c)+1)-(Pu.n p)) (Pu.n p) cR cR aa) Z Z Z (E Z (B.mul Z Z bj) (E Z (B.add Z Z bj) (E Z (B.sub Z Z bj) (C Z (w177 (((2*r)+1)-(Pu.n p))) Z Z Z (C Z (w179z (((2*r)+1)-(Pu.n p)) (Pu.n p) cR cR aa) Z Z Z ?_)))))))))))))
 refine E Z (B.run (val:=.pv (.agg [pI (Qn.n (jc (Pu.n p) c)),.lit (.slice none 0 0),pI (Qn.d (jc (Pu.n p) c)),.lit (.slice none 0 0),pI (Qn.n (jc (Pu.n p) r)),.lit (.slice none 0 0),pI (Qn.d (jc (Pu.n p) r)),.lit (.slice none 0 0)])) (m:=[]) (rd:=[]) ae) (Dr Z ae ?_)
 refine Rt Z ?_
 exact leaf (val0:=.pv (.agg [pI (Qn.n (jc (Pu.n p) c)),.lit (.slice none 0 0),pI (Qn.d (jc (Pu.n p) c)),.lit (.slice none 0 0),pI (Qn.n (jc (Pu.n p) r)),.lit (.slice none 0 0),pI (Qn.d (jc (Pu.n p) r)),.lit (.slice none 0 0)])) ae bi
theorem w257 (v:Van) (x y:Qn) (hb:¬vanE1 v≠0) (hx:sz (Qn.q x)<=13) (hy:sz (Qn.q y)<=13) (hq:jg (Van.b v)=0) (hz:sz (Qn.q (qJ (Van.b v)))<=9/\VS v):CKa 257 [.pv (.agg [pI (Van.x v),pI (Van.y v),pI (Van.l v),pS (bsO (Van.b v))]),.pv (.agg [pI (Qn.n x),.lit (.slice none 0 0),pI (Qn.d x),.lit (.slice none 0 0),pI (Qn.n y),.lit (.slice none 0 0),pI (Qn.d y),.lit (.slice none 0 0)])] (vB (covB v x y)):=by
 refine cG qf257 Z (nB Z) Z (C Z (w100i (Van.x v) cS) Z Z Z (C Z (w100i (Van.y v) cS) Z Z Z (C Z (w100i (Van.l v) cS) Z Z Z (E Z (B.ja Z (fun l=>Frz.jU l Z) Z) (E Z (B.ja Z (fun l=>Frz.jU l Z) Z) (E Z (B.ja Z (fun l=>Frz.jU l Z) Z) (Dr Z ae (C Z (w126 x (Qn.ofI (Van.x v)) (co_z hb hx hy hz).1) Z Z Z (C Z (w126 y (Qn.ofI (Van.y v)) (co_z hb hx hy hz).2.1) Z Z Z (C Z (w125 (Qn.mul x (Qn.ofI (Van.x v))) (Qn.mul y (Qn.ofI (Van.y v))) (co_z hb hx hy hz).2.2.1) Z Z Z (E Z (B.ja Z (fun l=>Frz.jU l Z) Z) (Dr Z ae (C Z (w126 y (Qn.ofI (Van.x v)) (co_z hb hx hy hz).2.2.2.1) Z Z Z ?_)))))))))))))
 refine C Z (w126 x (Qn.ofI (Van.y v)) (co_z hb hx hy hz).2.2.2.2.1) Z Z Z (C Z (w210 (Qn.mul y (Qn.ofI (Van.x v))) (Qn.mul x (Qn.ofI (Van.y v))) (co_z hb hx hy hz).2.2.2.2.2.1) Z Z Z (E Z (B.ja Z (fun l=>Frz.jU l Z) Z) (Dr Z ae (C Z (w145 (Qn.sub (Qn.mul y (Qn.ofI (Van.x v))) (Qn.mul x (Qn.ofI (Van.y v)))) (co_z hb hx hy hz).2.2.2.2.2.2.1) Z Z Z (Cp Z Z (fun h1=>?_) (fun h1=>?_))))))
 ·refine C Z (w118 (Qn.sub (Qn.mul y (Qn.ofI (Van.x v))) (Qn.mul x (Qn.ofI (Van.y v)))) (co_z hb hx hy hz).2.2.2.2.2.2.1) Z Z Z (C Z (w145 (Qn.add (Qn.mul x (Qn.ofI (Van.x v))) (Qn.mul y (Qn.ofI (Van.y v)))) (co_z hb hx hy hz).2.2.2.2.2.2.2.1) Z Z Z (Eg Z Z (fun hc=>B.loadBA Z Z Z ag156 kr Z Z) Z (Eg Z Z (fun hc=>B.fadB Z fa122_3 Z) Z (Eg Z Z (fun hc=>B.kJ (qz Z hc) Z Z ag33 sz33 Z) Z (Eg Z Z (fun hc=>B.call (w116 (Van.b v) hq) Z (ds1 (qz Z hc)) Z) Z (Eg Z Z (fun hc=>B.loadBA Z Z Z ag156 kr Z Z) Z (Eg Z Z (fun hc=>B.call (w126 (qJ (Van.b v)) (Qn.ofI (Van.l v)) (co_z hb hx hy hz).2.2.2.2.2.2.2.2.1) Z (ds2 (qz Z hc) (qz Z hc)) Z) Z (Eg Z Z (fun hc=>B.call (w166 (Qn.neg (Qn.sub (Qn.mul y (Qn.ofI (Van.x v))) (Qn.mul x (Qn.ofI (Van.y v))))) (Qn.mul (qJ (Van.b v)) (Qn.ofI (Van.l v))) (co_z hb hx hy hz).2.2.2.2.2.2.2.2.2.1) Z (ds2 (qz Z hc) (qz Z hc)) Z) Z (Eg Z Z (fun hc=>B.lss (qz Z hc) Z) Z (E Z (B.pick Z Z Z (gdB Z) Z (q0 _)) (Dr Z ae ?_)))))))))))
  refine Rt Z ?_
  exact leaf (val0:=vB (bif (decide (0<=(jz (Qn.q (Qn.add (Qn.mul x (Qn.ofI (Van.x v))) (Qn.mul y (Qn.ofI (Van.y v))))).num))) then (decide ((cmpQ2 (Qn.q (Qn.neg (Qn.sub (Qn.mul y (Qn.ofI (Van.x v))) (Qn.mul x (Qn.ofI (Van.y v)))))) (Qn.q (Qn.mul (qJ (Van.b v)) (Qn.ofI (Van.l v)))))<0)) else false)) ae cT
 refine C Z (w145 (Qn.add (Qn.mul x (Qn.ofI (Van.x v))) (Qn.mul y (Qn.ofI (Van.y v)))) (co_z hb hx hy hz).2.2.2.2.2.2.2.1) Z Z Z (Eg Z Z (fun hc=>B.loadBA Z Z Z ag156 kr Z Z) Z (Eg Z Z (fun hc=>B.fadB Z fa122_3 Z) Z (Eg Z Z (fun hc=>B.kJ (qz Z hc) Z Z ag33 sz33 Z) Z (Eg Z Z (fun hc=>B.call (w116 (Van.b v) hq) Z (ds1 (qz Z hc)) Z) Z (Eg Z Z (fun hc=>B.loadBA Z Z Z ag156 kr Z Z) Z (Eg Z Z (fun hc=>B.call (w126 (qJ (Van.b v)) (Qn.ofI (Van.l v)) (co_z hb hx hy hz).2.2.2.2.2.2.2.2.1) Z (ds2 (qz Z hc) (qz Z hc)) Z) Z (Eg Z Z (fun hc=>B.call (w166 (Qn.sub (Qn.mul y (Qn.ofI (Van.x v))) (Qn.mul x (Qn.ofI (Van.y v)))) (Qn.mul (qJ (Van.b v)) (Qn.ofI (Van.l v))) (co_z hb hx hy hz).2.2.2.2.2.2.2.2.2.2) Z (ds2 (qz Z hc) (qz Z hc)) Z) Z (Eg Z Z (fun hc=>B.lss (qz Z hc) Z) Z (E Z (B.pick Z Z Z (gdB Z) Z (q0 _)) (Dr Z ae ?_))))))))))
 refine Rt Z ?_
 exact leaf (val0:=vB (bif (decide (0<=(jz (Qn.q (Qn.add (Qn.mul x (Qn.ofI (Van.x v))) (Qn.mul y (Qn.ofI (Van.y v))))).num))) then (decide ((cmpQ2 (Qn.q (Qn.sub (Qn.mul y (Qn.ofI (Van.x v))) (Qn.mul x (Qn.ofI (Van.y v))))) (Qn.q (Qn.mul (qJ (Van.b v)) (Qn.ofI (Van.l v)))))<0)) else false)) ae cT
theorem fq122:flatEq tab 122=some [.int (.i64),.int (.i64),.int (.i64),.string]:=ae
structure PuOk (p:Pu):Prop where
 e:puE p=0
 a:sz (qJ p.a).q<=4
 h:sz (qJ p.h).q<=4
 v:∀ v∈p.v,sz (qJ v.b).q<=9/\VS v
def disQ (p:Pu) (c r:Int):Qn:=Qn.add (Qn.mul (jc (Pu.n p) c) (jc (Pu.n p) c)) (Qn.mul (jc (Pu.n p) r) (jc (Pu.n p) r))
def outB (p:Pu) (c r:Int):Bool:=bif decide (cmpQ2 (disQ p c r).q (Qn.mul (qJ (Pu.h p)) (qJ (Pu.h p))).q<0) then true else decide (0<cmpQ2 (disQ p c r).q (Qn.mul (qJ (Pu.a p)) (qJ (Pu.a p))).q)
def hasB (p:Pu) (c r:Int):Bool:=bif outB p c r then false else !((Pu.v p).any fun v=>covB v (jc (Pu.n p) c) (jc (Pu.n p) r))
section
variable {p:Pu} {c r:Int} {k:Nat} {v:Van}
theorem pk_1 (h:PuOk p):puE1 p=0:=by
 have:=h.e
 unfold puE at this
 by_cases e:puE1 p=0
 ·exact e
 rw[if_pos e] at this;exact this
theorem pk_2 (h:PuOk p):fitE (qJ (Pu.a p)) (Pu.h p)=0/\(Pu.v p).length<=8/\jn vanE (Pu.v p)=0:=by
 have:=h.e
 unfold puE at this
 rw[if_neg (by rw[pk_1 h];simp),kL,kL,kL,wh_0 ah,zH] at this
 exact⟨this.1,aa,this.2.2.1⟩
theorem pk_n (h:PuOk p):2<=Pu.n p/\Pu.n p<=16:=by
 have:=pk_1 h
 unfold puE1 at this
 rw[kL,wi_0] at this
 exact this.1
theorem pk_a (h:PuOk p):jg (Pu.a p)=0:=cp_a (by rw[pk_1 h];simp)
theorem pk_h (h:PuOk p):jg (Pu.h p)=0:=by
 have:=(pk_2 h).1
 unfold fitE at this
 by_cases e:jg (Pu.h p)=0
 ·exact e
 rw[if_pos e] at this;exact this
theorem pv_k (h:PuOk p) (hv:v∈Pu.v p):¬vanE1 v≠0/\jg (Van.b v)=0/\sz (Qn.q (qJ (Van.b v)))<=9/\VS v:=by
 have h1:=eachE_0 (pk_2 h).2.2 v hv
 unfold vanE at h1
 by_cases e:vanE1 v=0
 ·rw[if_neg aP,kL,kL] at h1
  have h2:=h1.2.1
  unfold posE at h2
  refine⟨by rw[e];simp,?_,h.v v hv⟩
  by_cases e2:jg (Van.b v)=0
  ·exact e2
  rw[if_pos e2] at h2;exact h2
 rw[if_pos e] at h1;exact absurd h1 e
theorem cen_s {n:Int} (hn:2<=n/\n<=16) (hc:0<=c/\c<=100):sz (jc n c).q<=13:=by
 refine qh (sz_div _ _) ?_
 have h1:sz ((2*c+1-n:Int):Rat)<=8:=qh (sz_int _) (Nat.max_le.2 ⟨jb aa,ah⟩)
 have h2:sz ((n:Int):Rat)<=5:=qh (sz_int _) (Nat.max_le.2 ⟨jb aa,ah⟩)
 omega
theorem has_z (h:PuOk p) (hcc:0<=c/\c<=100) (hr:0<=r/\r<=100):sz (jc (Pu.n p) c).q+sz (jc (Pu.n p) c).q<=62/\sz (jc (Pu.n p) r).q+sz (jc (Pu.n p) r).q<=62/\sz (Qn.mul (jc (Pu.n p) c) (jc (Pu.n p) c)).q+sz (Qn.mul (jc (Pu.n p) r) (jc (Pu.n p) r)).q<=62/\
  sz (qJ (Pu.h p)).q+sz (qJ (Pu.h p)).q<=62/\sz (disQ p c r).q+sz (Qn.mul (qJ (Pu.h p)) (qJ (Pu.h p))).q<=62/\sz (qJ (Pu.a p)).q+sz (qJ (Pu.a p)).q<=62/\sz (disQ p c r).q+sz (Qn.mul (qJ (Pu.a p)) (qJ (Pu.a p))).q<=62:=by
 have h1:=cen_s (pk_n h) hcc
 have h2:=cen_s (pk_n h) hr
 have h3:=h.a
 have h4:=h.h
 have m1:=sz_mul (jc (Pu.n p) c).q (jc (Pu.n p) c).q
 have m2:=sz_mul (jc (Pu.n p) r).q (jc (Pu.n p) r).q
 have m3:=sz_mul (qJ (Pu.h p)).q (qJ (Pu.h p)).q
 have m4:=sz_mul (qJ (Pu.a p)).q (qJ (Pu.a p)).q
 have a1:=sz_add ((jc (Pu.n p) c).q*(jc (Pu.n p) c).q) ((jc (Pu.n p) r).q*(jc (Pu.n p) r).q)
 unfold disQ
 simp only[Qn.j6,Qn.add_q]
 omega
theorem ha_1 (h:outB p c r=true):vB false=vB (hasB p c r):=by unfold hasB;rw[h];rfl
theorem ha_2 (h:outB p c r=false) (hI:∀ j,j<k->covB (List.getD (Pu.v p) j vaZ) (jc (Pu.n p) c) (jc (Pu.n p) r)=false) (hk:(Pu.v p).length<=k):vB true=vB (hasB p c r):=by
 have e:((Pu.v p).any fun v=>covB v (jc (Pu.n p) c) (jc (Pu.n p) r))=false:=by
  rw[List.any_eq_false]
  intro v hv
  obtain⟨j,hj,rfl⟩:=List.getElem_of_mem hv
  have:=hI j aa
  rw[ze,zm hj] at this
  simpa using this
 unfold hasB;rw[h,e];rfl
theorem ha_3 (h:outB p c r=false) (hk:k<(Pu.v p).length) (h4:covB (List.getD (Pu.v p) k vaZ) (jc (Pu.n p) c) (jc (Pu.n p) r)=true):vB false=vB (hasB p c r):=by
 have e:((Pu.v p).any fun v=>covB v (jc (Pu.n p) c) (jc (Pu.n p) r))=true:=List.any_eq_true.2 ⟨_,jf hk,h4⟩
 unfold hasB;rw[h,e];rfl
theorem ha_n (hI:∀ j,j<k->covB (List.getD (Pu.v p) j vaZ) (jc (Pu.n p) c) (jc (Pu.n p) r)=false) (h4:covB (List.getD (Pu.v p) k vaZ) (jc (Pu.n p) c) (jc (Pu.n p) r)=false):∀ j,j<k+1->covB (List.getD (Pu.v p) j vaZ) (jc (Pu.n p) c) (jc (Pu.n p) r)=false:=fun j hj=>by
 by_cases e:j=k
 ·rw[e];exact h4
 exact hI j aa
theorem ha_d (hI:∀ j,j<k->covB (List.getD (Pu.v p) j vaZ) (jc (Pu.n p) c) (jc (Pu.n p) r)=false) {v w:Van} (h:(bif decide (0<((k:Nat):Int)) then (decide (Van.x v=Van.x w)&&(decide (Van.y v=Van.y w)&&(decide (Van.l v=Van.l w)&&decide (Van.b v=Van.b w)))) else false)=true) (hv:v=List.getD (Pu.v p) k vaZ) (hw:w=List.getD (Pu.v p) (k-1) vaZ) :
  ∀ j,j<k+1->covB (List.getD (Pu.v p) j vaZ) (jc (Pu.n p) c) (jc (Pu.n p) r)=false:=by
 have hk:0<k:=by
  by_cases e:0<k
  ·exact e
  have:k=0:=aa
  subst this
  simp at h
 rw[zl (show (0:Int)<((k:Nat):Int) by omega),cond_true] at h
 simp only[zj,zf] at h
 obtain⟨a1,a2,a3,a4⟩:=h
 have e:v=w:=by
  obtain⟨x,y,l,b⟩:=v
  obtain⟨x',y',l',b'⟩:=w
  simp only at a1 a2 a3 a4
  subst a1 a2 a3 a4
  rfl
 refine ha_n hI ?_
 rw[<-hv,e,hw]
 exact hI (k-1) aa
end
theorem sz176:szT tab 176=some 8:=ae
theorem w205 (p:Pu) (c r:Int) (hP:PuOk p) (hcc:0<=c/\c<=100) (hr:0<=r/\r<=100):CKa 205 [.pv (.agg [pI (Pu.n p),pS (bsO (Pu.a p)),pS (bsO (Pu.h p)),pL eV (Pu.v p)]),vI c,vI r] (vB (hasB p c r)):=by
 refine cL 10 [] qf205 Z (nB Z) Z Z (kc ?_)
 refine tk 9999 Z ?_
 refine TK.scope (fun _ _ h=>by rcases h.1 with h|h<;>cases h) ?_
 refine kc (C Z (w135 p c r (pk_n hP) aa aa) Z Z Z (E Z (B.ja Z (fun l=>Frz.jU l Z) Z) (C Z (w126 (jc (Pu.n p) c) (jc (Pu.n p) c) (has_z hP hcc hr).1) Z Z Z (C Z (w126 (jc (Pu.n p) r) (jc (Pu.n p) r) (has_z hP hcc hr).2.1) Z Z Z (C Z (w125 (Qn.mul (jc (Pu.n p) c) (jc (Pu.n p) c)) (Qn.mul (jc (Pu.n p) r) (jc (Pu.n p) r)) (has_z hP hcc hr).2.2.1) Z Z Z (E Z (B.ja Z (fun l=>Frz.jU l Z) Z) (Dr Z ae (C Z (w116 (Pu.h p) (pk_h hP)) Z Z Z (C Z (w116 (Pu.a p) (pk_a hP)) Z Z Z (E Z (B.ja Z (fun l=>Frz.jU l Z) Z) (E Z (B.ja Z (fun l=>Frz.jU l Z) Z) (Dr Z ae (C Z (w126 (qJ (Pu.h p)) (qJ (Pu.h p)) (has_z hP hcc hr).2.2.2.1) Z Z Z ?_)))))))))))))
 refine C Z (w166 (Qn.add (Qn.mul (jc (Pu.n p) c) (jc (Pu.n p) c)) (Qn.mul (jc (Pu.n p) r) (jc (Pu.n p) r))) (Qn.mul (qJ (Pu.h p)) (qJ (Pu.h p))) (has_z hP hcc hr).2.2.2.2.1) Z Z Z (Eg Z Z (fun hc=>B.loadBA Z Z Z ag156 kr Z Z) Z (Eg Z Z (fun hc=>B.loadBA Z Z Z ag156 kr Z Z) Z (Eg Z Z (fun hc=>B.loadBA Z Z Z ag156 kr Z Z) Z (Eg Z Z (fun hc=>B.call (w126 (qJ (Pu.a p)) (qJ (Pu.a p)) (has_z hP hcc hr).2.2.2.2.2.1) Z (ds2 (qz Z hc) (qz Z hc)) Z) Z (Eg Z Z (fun hc=>B.call (w166 (Qn.add (Qn.mul (jc (Pu.n p) c) (jc (Pu.n p) c)) (Qn.mul (jc (Pu.n p) r) (jc (Pu.n p) r))) (Qn.mul (qJ (Pu.a p)) (qJ (Pu.a p))) (has_z hP hcc hr).2.2.2.2.2.2) Z (ds2 (qz Z hc) (qz Z hc)) Z) Z (Eg Z Z (fun hc=>B.gtr (qz Z hc) Z) Z (E Z (B.pick Z Z Z Z (gdB Z) (jj _)) (Dr Z ae (Cb Z Z (fun h1=>?_) (fun h1=>?_))))))))))
 ·refine Rt Z ?_
  exact q5 (val0:=vB false) (out0:=[]) (.inr Z) ae cU rfl
 refine tk 9999 Z ?_
 refine TK.label ?_
 refine pc (E Z (B.jW Z un64) (l1 (fun (k:Nat)=>[(3,.bref 13 0),(7,.bref 17 0),(11,vB true),(50,vL eV (Pu.v p)),(51,vI ((List.length (Pu.v p):Nat):Int)),(52,vI ((k:Nat):Int))]) (fun _=>[(13,.box 66 [vI (Pu.n p),vS (bsO (Pu.a p)),vS (bsO (Pu.h p)),vL eV (Pu.v p)]),(17,.box 176 [vI (Qn.n (jc (Pu.n p) c)),.pv (.lit (.slice none 0 0)),vI (Qn.d (jc (Pu.n p) c)),.pv (.lit (.slice none 0 0)),vI (Qn.n (jc (Pu.n p) r)),.pv (.lit (.slice none 0 0)),vI (Qn.d (jc (Pu.n p) r)),.pv (.lit (.slice none 0 0))])]) (fun k=>k<=List.length (Pu.v p)/\∀ j,j<k->covB (List.getD (Pu.v p) j vaZ) (jc (Pu.n p) c) (jc (Pu.n p) r)=false) (fun k=>List.length (Pu.v p)-k) 0 Z ?_ (sb Z Z Z) ?_))
 · exact⟨zw _,fun j hj=>aa⟩
 intro k hI0
 have hl8:=(pk_2 hP).2.1
 refine Cp Z Z (fun h2=>?_) (fun h2=>?_)
 ·refine E Z (B.idx (z:=vaZ) (i:=k) Z Z un64 sz122 (fun _=>rfl) Z aa) (Eg Z Z (fun hc=>B.loadBA Z Z Z ag122 sz122 Z Z) Z (Eg Z Z (fun hc=>B.fadB Z fa66_3 Z) Z (Eg Z Z (fun hc=>B.kJ (qz Z hc) Z Z ag64 sz64 Z) Z (Eg Z Z (fun hc=>B.move Z) Z (Eg Z Z (fun hc=>B.sub (qz Z hc) Z bj) Z (Eg Z Z (fun hc=>B.idx (z:=vaZ) (i:=(k-1)) (qz Z hc) (qz Z hc) un64 sz122 (fun _=>rfl) (by first|omega|(have hc2:=of_decide_eq_true (eq_of_beq hc);omega)) aa) Z (Eg Z Z (fun hc=>B.loadA (ds:=[pI (Van.x (List.getD (Pu.v p) (k-1) vaZ)),pI (Van.y (List.getD (Pu.v p) (k-1) vaZ)),pI (Van.l (List.getD (Pu.v p) (k-1) vaZ)),pS (bsO (Van.b (List.getD (Pu.v p) (k-1) vaZ)))]) (qz Z hc) ag122 sz122 (zZ Z) Z) Z (Eg Z Z (fun hc=>B.stqE (qz Z hc) (qz Z hc) fq122 (eqv_cons eqv_i (eqv_cons eqv_i (eqv_cons eqv_i (eqv_last eqv_s))))) Z (E Z (B.pick Z Z Z (gdB Z) Z (q0 _)) (Dr Z ae (Cb Z Z (fun h3=>?_) (fun h3=>?_))))))))))))
  ·refine E Z (B.add Z Z bj) (pk Z (L1 (k+1) ?_ ?_ (sb Z Z Z)))
   · first|exact⟨aa,ha_n hI0.2 ab⟩|exact⟨aa,ha_d hI0.2 ab Z rfl⟩
   · omega
  refine C Z (w257 (List.getD (Pu.v p) k vaZ) (jc (Pu.n p) c) (jc (Pu.n p) r) (pv_k hP (jf aa)).1 (cen_s (pk_n hP) hcc) (cen_s (pk_n hP) hr) (pv_k hP (jf aa)).2.1 (pv_k hP (jf aa)).2.2) Z Z Z (Cb Z Z (fun h4=>?_) (fun h4=>?_))
  ·refine Rt Z ?_
   exact q5 (val0:=vB false) (out0:=[]) (.inr Z) ae cU rfl
  refine E Z (B.add Z Z bj) (pk Z (L1 (k+1) ?_ ?_ (sb Z Z Z)))
  · first|exact⟨aa,ha_n hI0.2 ab⟩|exact⟨aa,ha_d hI0.2 ab Z rfl⟩
  · omega
 refine Rt Z ?_
 exact q5 (val0:=vB true) (out0:=[]) (.inr Z) ae cU rfl
def rowT (p:Pu) (j r:Nat):List KI:=((List.range j).filter fun c=>hasB p ((c:Nat):Int) ((r:Nat):Int)).map fun c=>(((c:Nat):Int),((r:Nat):Int))
def celT (p:Pu) (i j:Nat):List KI:=(List.range i).flatMap (rowT p (Int.toNat (Pu.n p)))++rowT p j i
def kQ (p:Pu):List KI:=celT p (Int.toNat (Pu.n p)) 0
section
variable {p:Pu} {i j:Nat} {l:List KI} {v:Nat}
theorem row_l (j r:Nat):(rowT p j r).length<=j:=by
 unfold rowT
 rw[zJ]
 exact qh (List.length_filter_le _ _) ao
theorem cel_l:∀ i,(celT p i j).length<=i*Int.toNat (Pu.n p)+j:=by
 intro i
 unfold celT
 rw[za]
 have h1:=row_l (p:=p) j i
 have h2:∀ i,((List.range i).flatMap (rowT p (Int.toNat (Pu.n p)))).length<=i*Int.toNat (Pu.n p):=by
  intro i
  induction i with
  | zero=>simp
  | succ i ih=>
   rw[List.range_succ,List.flatMap_append,za,Nat.succ_mul]
   have:=row_l (p:=p) (Int.toNat (Pu.n p)) i
   simp only[List.flatMap_cons,List.flatMap_nil,zS]
   omega
 have:=h2 i
 omega
theorem cel_m (hP:PuOk p) (hi:i<=Int.toNat (Pu.n p)) (hj:j<=Int.toNat (Pu.n p)):(celT p i j).length<=1000:=by
 have h1:=cel_l (p:=p) (j:=j) i
 have h2:=pk_n hP
 have h3:i*Int.toNat (Pu.n p)<=16*16:=Nat.mul_le_mul aa aa
 omega
theorem row_t (h:hasB p ((j:Nat):Int) ((i:Nat):Int)=true):rowT p (j+1) i=rowT p j i++[(((j:Nat):Int),((i:Nat):Int))]:=by
 unfold rowT
 rw[List.range_succ,List.filter_append,qc]
 simp[h]
theorem row_f (h:hasB p ((j:Nat):Int) ((i:Nat):Int)=false):rowT p (j+1) i=rowT p j i:=by
 unfold rowT
 rw[List.range_succ,List.filter_append,qc]
 simp[h]
theorem cel_t (h:hasB p ((j:Nat):Int) ((i:Nat):Int)=true) (hl:l=celT p i j):l++[(((j:Nat):Int),((i:Nat):Int))]=celT p i (j+1):=by
 rw[hl];unfold celT;rw[row_t h,z8]
theorem cel_f (h:hasB p ((j:Nat):Int) ((i:Nat):Int)=false) (hl:l=celT p i j):l=celT p i (j+1):=by
 rw[hl];unfold celT;rw[row_f h]
theorem cel_n (hj:j=Int.toNat (Pu.n p)) (hl:l=celT p i j):l=celT p (i+1) 0:=by
 rw[hl,hj]
 unfold celT
 rw[List.range_succ,List.flatMap_append]
 simp[rowT]
end
noncomputable def rf68:Array Tmp×Code×Code:=(rfOf (fn68.body.getD .skip)).getD (#[],.skip,.skip)
noncomputable def ps68:Array Tmp:=rf68.1
noncomputable def as68:Code:=rf68.2.1
noncomputable def bo68:Code:=rf68.2.2
noncomputable abbrev rZC (us:List Value) (fn:FuncId) (D:Nat) (st:LoopState) (pe:Option Code):MO:=.obj (recL fn us ps68 as68 bo68 D st pe)
abbrev dsC:List DV:=[.dead,.dead,.dead,.dead,.dead,.bref 23 0,.dead,.dead,.dead,.dead,.dead,.dead,.dead,.dead,.dead,.dead,.dead,.dead,.dead,.dead,.dead,.dead,.dead,.dead]
theorem by57:ty57.info.bytes=16:=ae
theorem in57:tab.info? 57=some ty57.info:=ae
theorem sz72:szT tab 72=some 1:=ae
theorem un72:tab.underlying 72=some (.slice 57):=ae
theorem w134 (p:Pu):qD Tryz.prog 134 [.pv (.agg [pI (Pu.n p),pS (bsO (Pu.a p)),pS (bsO (Pu.h p)),pL eV (Pu.v p)])] (qw []) (.clos (.func 204) [] [.bref 20 0]) [(20,.box 66 [vI (Pu.n p),vS (bsO (Pu.a p)),vS (bsO (Pu.h p)),vL eV (Pu.v p)])]:=by
 refine cL 19 [] qf134 Z (nB Z) Z Z (kc ?_)
 refine Rt Z ?_
 exact q5 (val0:=.clos (.func 204) [] [.bref 20 0]) (out0:=[(20,.box 66 [vI (Pu.n p),vS (bsO (Pu.a p)),vS (bsO (Pu.h p)),vL eV (Pu.v p)])]) (.inr Z) ae bi bi
theorem asgC [Fc] (us:List Value) (fn:FuncId) (D v:Nat) (l:List KI) (c r:Int):TK Tryz.prog 24 2001 (fun e' s'=>e'=.normal/\Sub 2001 s' ⟨[(5,.bref 23 0),(6,vI c),(7,vI r)],[(23,.box 72 [.aref 901 v]),(901,.arr v 2 57 (List.map eK l)),(950,(rZC us fn D .ready none))]⟩) as68 [] ⟨[(5,.bref 23 0),(15,vI c),(16,vI r)],[(23,.box 72 [.aref 901 v]),(901,.arr v 2 57 (List.map eK l)),(950,(rZC us fn D .ready none))]⟩:=by
 exact kc (Rn Z ⟨rfl,sb Z Z rfl⟩)
theorem bodC [Fc] (us:List Value) (fn:FuncId) (D v:Nat) (l:List KI) (c r:Int) (hl:List.length l<=1000000):TK Tryz.prog 24 2001 (fun e' s'=>e'=.normal/\Sub 2001 s' ⟨[],(950,rZC us fn D .busy none)::[(23,.box 72 [.aref 901 (v+1)]),(901,.arr (v+1) 2 57 (List.map eK (l++[(c,r)])))]⟩) bo68 [] ⟨[(5,.bref 23 0),(6,vI c),(7,vI r)],[(23,.box 72 [.aref 901 v]),(901,.arr v 2 57 (List.map eK l)),(950,(rZC us fn D .busy none))]⟩:=by
 exact kc (E Z (B.run (val:=.pv (.agg [pI c,pI r])) (m:=[]) (rd:=[]) ae) (E Z (B.ja (val:=.pv (.slice (List.map eK [(c,r)]))) (val0:=.aref 2022 0) (m0:=[(2022,.arr 0 2 57 [[pI (Prod.fst (c,r)),pI (Prod.snd (c,r))]])]) (rd:=[]) ae (fun l=>Frz.arr l _ _ _ _ _) Z) (E Z (B.append Z Z Z un72 in57 Z (fun _=>rfl) by57 cj) (E Z (B.storeR Z Z Z Z sz72 Z Z) (Rn Z ⟨rfl,sb Z Z rfl⟩)))))
theorem ylC (us:List Value) (fn:FuncId) (D v:Nat) (l:List KI) (c r:Int) (hu:List.length us=24) (hl:List.length l<=1000000):YldOk Tryz.prog 950 us dsC [vI c,vI r] (qw ((950,rZC us fn D .ready none)::[(23,.box 72 [.aref 901 v]),(901,.arr v 2 57 (List.map eK l))])) (lit (.bool true)) ((950,rZC us fn D .ready none)::[(23,.box 72 [.aref 901 (v+1)]),(901,.arr (v+1) 2 57 (List.map eK (l++[(c,r)])))]):=
 YldOk.of (n:=24) (nb:=2001) (tm1:=[(5,.bref 23 0),(6,vI c),(7,vI r)]) (l1:=[(23,.box 72 [.aref 901 v]),(901,.arr v 2 57 (List.map eK l)),(950,(rZC us fn D .ready none))]) (ps:=ps68) (assign:=as68) (body:=bo68) true hu Z ah (allLt Z) Z rfl
  (fun r'=>letI ic:Fc:=⟨some r'⟩;TK.start (TK.norm ⟨[(5,.bref 23 0),(15,vI c),(16,vI r)],[(23,.box 72 [.aref 901 v]),(901,.arr v 2 57 (List.map eK l)),(950,(rZC us fn D .ready none))]⟩ (sb Z Z Z) (asgC us fn D v l c r))) rfl
  (fun r'=>letI ic:Fc:=⟨some r'⟩;TK.start (TK.norm ⟨[(5,.bref 23 0),(6,vI c),(7,vI r)],[(23,.box 72 [.aref 901 v]),(901,.arr v 2 57 (List.map eK l)),(950,(rZC us fn D .busy none))]⟩ (sb Z Z Z) (bodC us fn D v l c r hl))) (allNe Z) (ndM_ok Z) Z rfl
theorem w204C (us:List Value) (fn:FuncId) (D:Nat) (p:Pu) (hu:List.length us=24) (hP:PuOk p):qD Tryz.prog 204 [.yld 950 us dsC,.bref 20 0] (qw ((950,rZC us fn D .ready none)::[(20,.box 66 [vI (Pu.n p),vS (bsO (Pu.a p)),vS (bsO (Pu.h p)),vL eV (Pu.v p)]),(23,.box 72 [.aref 901 0]),(901,.arr 0 2 57 (List.map eK []))])) (.tup []) (List.reverse ((950,rZC us fn D .ready none)::[(20,.box 66 [vI (Pu.n p),vS (bsO (Pu.a p)),vS (bsO (Pu.h p)),vL eV (Pu.v p)]),(23,.box 72 [.aref 901 (List.length (kQ p))]),(901,.arr (List.length (kQ p)) 2 57 (List.map eK (kQ p)))])):=by
 have hN:=pk_n hP
 refine cL 1001 ((950,rZC us fn D .ready none)::[(20,.box 66 [vI (Pu.n p),vS (bsO (Pu.a p)),vS (bsO (Pu.h p)),vL eV (Pu.v p)]),(23,.box 72 [.aref 901 0]),(901,.arr 0 2 57 (List.map eK []))]) qf204 Z (nB Z) Z Z (kc (l3 (fun (i:Nat) (v:Nat) (l:List KI)=>[(0,.yld 950 us dsC),(1,.bref 20 0),(6,vI (Pu.n p)),(7,vI ((i:Nat):Int))]) (fun _ v l=>[(20,.box 66 [vI (Pu.n p),vS (bsO (Pu.a p)),vS (bsO (Pu.h p)),vL eV (Pu.v p)]),(23,.box 72 [.aref 901 v]),(901,.arr v 2 57 (List.map eK l)),(950,(rZC us fn D .ready none))]) (fun i v l=>i<=Int.toNat (Pu.n p)/\v=List.length l/\l=celT p i 0) (fun i _ _=>Int.toNat (Pu.n p)-i) 0 0 [] Z ?_ (sb Z Z Z) ?_))
 · exact⟨zw _,rfl,rfl⟩
 intro i v l hI0
 refine Cp Z Z (fun h1=>?_) (fun h1=>?_)
 ·refine l3 (fun (j:Nat) (u:Nat) (q:List KI)=>[(0,.yld 950 us dsC),(1,.bref 20 0),(3,vI ((i:Nat):Int)),(6,vI (Pu.n p)),(7,vI ((i:Nat):Int)),(11,vI (Pu.n p)),(12,vI ((j:Nat):Int))]) (fun _ u q=>[(20,.box 66 [vI (Pu.n p),vS (bsO (Pu.a p)),vS (bsO (Pu.h p)),vL eV (Pu.v p)]),(23,.box 72 [.aref 901 u]),(901,.arr u 2 57 (List.map eK q)),(950,(rZC us fn D .ready none))]) (fun j u q=>j<=Int.toNat (Pu.n p)/\u=List.length q/\q=celT p i j) (fun j _ _=>Int.toNat (Pu.n p)-j) 0 v l Z ?_ (sb Z Z Z) ?_
  · exact⟨zw _,hI0.2.1,hI0.2.2⟩
  intro j u q hI1
  have hq:=cel_m hP (i:=i) (j:=j) aa hI1.1
  rw[<-hI1.2.2] at hq
  refine Cp Z Z (fun h2=>?_) (fun h2=>?_)
  ·refine C Z (w205 p ((j:Nat):Int) ((i:Nat):Int) hP aa aa) Z Z Z ?_
   refine ek Z ?_
   cases h3:(hasB p ((j:Nat):Int) ((i:Nat):Int))
   ·refine Ef' Z Z (Ef' Z Z (Ef' Z Z (Ef' Z Z (Ef' Z Z (E Z (B.pkF Z Z Z Z Z) (CF Z Z (E Z (B.add Z Z bj) (pk Z (L3 (j+1) u q ?_ ?_ (sb Z Z Z))))))))))
    · (first|exact⟨aa,by rw[hI1.2.1,za];rfl,cel_t ab hI1.2.2⟩|exact⟨aa,hI1.2.1,cel_f ab hI1.2.2⟩)
    · omega
   refine Et Z Z (B.run Z) (Et Z Z (B.move Z) (Et Z Z (B.move Z) (Et Z Z (B.yieldS (l:=(950,rZC us fn D .ready none)::[(23,.box 72 [.aref 901 u]),(901,.arr u 2 57 (List.map eK q))]) (ylC us fn D u q ((j:Nat):Int) ((i:Nat):Int) hu aa) Z Z ⟨rfl,rfl,rfl,trivial⟩ rfl rfl) (Et Z Z (B.not Z) (E Z (B.pkT Z Z Z Z Z) (Cb Z Z (fun h4=>?_) (fun h4=>?_)))))))
   ·exact absurd h4 ah
   refine E Z (B.add Z Z bj) (pk Z (L3 (j+1) (u+1) (q++[(((j:Nat):Int),((i:Nat):Int))]) ?_ ?_ (sb Z Z Z)))
   · (first|exact⟨aa,by rw[hI1.2.1,za];rfl,cel_t ab hI1.2.2⟩|exact⟨aa,hI1.2.1,cel_f ab hI1.2.2⟩)
   · omega
  refine E Z (B.add Z Z bj) (pk Z (L3 (i+1) u q ?_ ?_ (sb Z Z Z)))
  · exact⟨aa,hI1.2.1,cel_n aa hI1.2.2⟩
  · omega
 refine Rn Z ?_
 exact q5 (val0:=.tup []) (out0:=[(901,.arr v 2 57 (List.map eK l)),(23,.box 72 [.aref 901 v]),(20,.box 66 [vI (Pu.n p),vS (bsO (Pu.a p)),vS (bsO (Pu.h p)),vL eV (Pu.v p)]),(950,(rZC us fn D .ready none))]) (.inl Z) ae Z (by have e:l=(kQ p):=cV;rw[hI0.2.1,e];rfl)
end Go.Lens.Tb
end
section
namespace Go.Lens
variable [Lz]
section
variable [Fc] {P:Program} {Y:Tab} [qM P Y] {nb n:Nat} {Q:Exit->St->Prop} {K:List Fr} {ops:Array Oper} {B:List Oper}
def CutW (P:Program) (Y:Tab) (nb n:Nat) (Q:Exit->St->Prop) (K:List Fr) (ops:Array Oper) (B:List Oper) (s:St):Prop:=∃ s2,Wk nb s s2/\RG P Y nb ops false B s2 [] (PK P n nb Q K .normal)
theorem CutW.mk {s s2:St} (h:Wk nb s s2) (k:RG P Y nb ops false B s2 [] (PK P n nb Q K .normal)):CutW P Y nb n Q K ops B s:=⟨s2,h,k⟩
theorem TK.cutW {id:Nat} {tm:List (Nat×DV)} {ms:List (Nat×MO)} (i:Nat) (hda:jA n (.region id ops false)=true)
  (hA:RG P Y nb ops false (ops.toList.take i) ⟨tm,ms⟩ [] (PK P n nb Q (.lp (CutW P Y nb n Q K ops (ops.toList.drop i))::K) .normal)):TK P n nb Q (.region id ops false) K ⟨tm,ms⟩:=by
 obtain⟨es,hes,_,hq⟩:=hA
 obtain⟨s2,hw,es2,hes2,_,hq2⟩:CutW P Y nb n Q K ops (ops.toList.drop i) (es.foldl stp ⟨tm,ms⟩):=by
  have:=hq
  simpa only[PK] using this
 intro G a w R0 I hn hK
 simp only[jA,zj] at hda
 have hsp:ops.toList.map some=(ops.toList.take i).map some++(ops.toList.drop i).map some:=by rw[<-qc,List.take_append_drop]
 have hidx:(List.range ops.size).map (fun i=>ops[i]?)=ops.toList.map some:=by
  apply List.ext_getElem?
  intro j
  simp only[qe]
  by_cases hj:j<ops.size
  ·simp[hj]
  simp[hj]
 obtain⟨l1,l2,hl,hl1,hl2⟩:∃ l1 l2,List.range ops.size=l1++l2/\l1.map (fun i=>ops[i]?)=(ops.toList.take i).map some/\l2.map (fun i=>ops[i]?)=(ops.toList.drop i).map some:=
  ⟨(List.range ops.size).take i,(List.range ops.size).drop i,(List.take_append_drop _ _).symm,by rw[List.map_take,hidx,List.map_take],by rw[List.map_drop,hidx,List.map_drop]⟩
 have hds:=hda.1
 rw[<-List.take_append_drop i ops.toList,List.all_append,zj] at hds
 refine wpIn_region ?_
 rw[hl]
 refine textRa (P:=P) _ hes hl1 hds.1 I hn ?_
 intro G1 a1 w1 I1 Sn1 hn1 hd1
 obtain⟨G2,I2,Sn2⟩:=hw I1
 refine textR (P:=P) _ hes2 hl2 hds.2 (G:=G2) I2 hn1 ?_
 intro G' a' w' I' Sn' hn' hd'
 exact hK _ _ _ _ _ hq2 I' ((Sn1.trans Sn2).trans Sn') hn' (Mks.of (hd'.trans hd1))
theorem wk_frzA {s:St} {t h v sz:Nat} {T0:TypeId} {es:List (List PV)} (ht:jx s.tm t=.aref h v) (hm:qw s.ms h=some (.arr v sz T0 es)):Wk nb s ⟨(t,.pv (.slice es))::s.tm,(h,.farr v es)::s.ms⟩:=
 wk_frz ht ao aW (by simp[pvOf,qG])
end
end Go.Lens
end
section
namespace Go.Lens.Tb
open Go.Proofs Go.Lens.Un
variable [Lz] [Dn]
set_option maxRecDepth 100000
attribute [local irreducible] TK PK T RG EfR Body CG
structure PuB (p:Pu):Prop where
 a:List.length (Pu.a p)<=18
 az:jg (Pu.a p)=0->sz (Qn.q (qJ (Pu.a p)))<=4
 h:List.length (Pu.h p)<=18
 hz:jg (Pu.h p)=0->sz (Qn.q (qJ (Pu.h p)))<=4
 l:List.length (Pu.v p)<=1000000
 v:∀ v∈Pu.v p,List.length (Van.b v)<=18
 vz:∀ v∈Pu.v p,jg (Van.b v)=0->sz (Qn.q (qJ (Van.b v)))<=9/\VS v
def celL (p:Pu):List KI:=if puE p≠0 then [] else kQ p
section
variable {p:Pu}
theorem PuB.ok (h:PuB p) (e:puE p=0):PuOk p:=by
 have h0:PuOk ⟨Pu.n p,Pu.a p,Pu.h p,[]⟩->True:=fun _=>trivial
 have e1:puE1 p=0:=by
  unfold puE at e
  by_cases e0:puE1 p=0
  ·exact e0
  rw[if_pos e0] at e;exact e
 have e2:jg (Pu.h p)=0/\jn vanE (Pu.v p)=0:=by
  unfold puE at e
  rw[if_neg (by rw[e1];simp),kL,kL,kL] at e
  refine⟨?_,e.2.2.1⟩
  have:=e.1
  unfold fitE at this
  by_cases q:jg (Pu.h p)=0
  ·exact q
  rw[if_pos q] at this;exact this
 refine⟨e,h.az (cp_a (by rw[e1];simp)),h.hz e2.1,fun v hv=>h.vz v hv ?_⟩
 have h1:=eachE_0 e2.2 v hv
 unfold vanE at h1
 by_cases q:vanE1 v=0
 ·rw[if_neg (by rw[q];simp),kL,kL] at h1
  have h2:=h1.2.1
  unfold posE at h2
  by_cases q2:jg (Van.b v)=0
  ·exact q2
  rw[if_pos q2] at h2;exact h2
 rw[if_pos q] at h1;exact absurd h1 q
theorem ce_1 (h:puE p≠0):[]=celL p:=by unfold celL;rw[if_pos h]
theorem ce_2 (_:puE p≠0):puE p=puE p:=rfl
theorem ce_3 (h:¬puE p≠0):kQ p=celL p:=by unfold celL;rw[if_neg h]
theorem ce_4 (h:¬puE p≠0):0=puE p:=(zi.1 h).symm
end
theorem w68 (p:Pu) (hq:PuB p):CKa 68 [.pv (.agg [pI (Pu.n p),pS (bsO (Pu.a p)),pS (bsO (Pu.h p)),pL eV (Pu.v p)])] (.tup [vL eK (celL p),vI (puE p)]):=by
 refine cL 18 [] qf68 Z (nB Z) Z Z (kc (E Z (B.kg (enc:=eK) Z) (C Z (w76 p hq.a (fun e=>qh (hq.az e) ah) hq.h (fun e e2=>by have:=hq.az e;have:=hq.hz e2;omega) hq.l hq.v (fun v hv e=>qh (hq.vz v hv e).1 ah)) Z Z Z (Cp Z Z (fun h1=>?_) (fun h1=>?_)))))
 ·refine E Z (B.kg (enc:=eK) Z) ?_
  refine Rt Z ?_
  exact q5 (val0:=.tup [vL eK [],vI (puE p)]) (out0:=[]) (.inr Z) ae cW rfl
 refine E Z (B.run Z) ?_
 refine tk 5 Z ?_
 refine TK.adoptC 23 0 901 2 57 Z Z Z Z ?_
 refine kc (E Z (B.q6 (l:=[]) (w134 p) Z Z trivial Z Z) ?_)
 refine tk 9999 Z ?_
 refine TK.norm ⟨[(2,vL eK []),(3,vI 0),(5,.bref 23 0),(14,.clos (.func 204) [] [.bref 20 0])],[(20,.box 66 [vI (Pu.n p),vS (bsO (Pu.a p)),vS (bsO (Pu.h p)),vL eV (Pu.v p)]),(23,.box 72 [.aref 901 0]),(901,.arr 0 2 57 (List.map eK []))]⟩ (sb Z Z Z) ?_
 refine TK.range (hl:=950) (ds:=dsC) (st:=.ready) (val:=.tup []) (out:=[(20,.box 66 [vI (Pu.n p),vS (bsO (Pu.a p)),vS (bsO (Pu.h p)),vL eV (Pu.v p)]),(23,.box 72 [.aref 901 (List.length (kQ p))]),(901,.arr (List.length (kQ p)) 2 57 (List.map eK (kQ p)))]) false (fun a w=>Tryz.call204 a w) Z Z Z (fun i _=>agD0 (tm:=[(2,vL eK []),(3,vI 0),(5,.bref 23 0),(14,.clos (.func 204) [] [.bref 20 0])]) (ds:=dsC) ⟨rfl,trivial⟩ i) (fun us fn D hu=>(w204C us fn D p hu (PuB.ok hq (zi.1 ab))).rev) ah (allNe Z) ?_
 refine pc ?_
 refine tk 9 Z ?_
 refine TK.cutW (Y:=tab) 1 Z ?_
 refine rc (pk Z (CutW.mk (wk_frzA (t:=23) Z Z) ?_))
 refine rc ?_
 refine Rt Z ?_
 exact q5 (val0:=.tup [vL eK (kQ p),vI 0]) (out0:=[]) (.inr Z) ae cW rfl
def cenP (p:Pu) (k:KI):Qn×Qn:=(jc (Pu.n p) k.1,jc (Pu.n p) k.2)
def kN (p:Pu):List (Qn×Qn):=(kQ p).map (cenP p)
section
variable {p:Pu} {i j:Nat} {l:List (Qn×Qn)}
theorem cep_m (hP:PuOk p) (hi:i<=Int.toNat (Pu.n p)) (hj:j<=Int.toNat (Pu.n p)):(List.map (cenP p) (celT p i j)).length<=1000:=by rw[zJ];exact cel_m hP hi hj
theorem cep_t (h:hasB p ((j:Nat):Int) ((i:Nat):Int)=true) (hl:l=List.map (cenP p) (celT p i j)):l++[(jc (Pu.n p) ((j:Nat):Int),jc (Pu.n p) ((i:Nat):Int))]=List.map (cenP p) (celT p i (j+1)):=by
 rw[hl,<-cel_t h rfl,qc];rfl
theorem cep_f (h:hasB p ((j:Nat):Int) ((i:Nat):Int)=false) (hl:l=List.map (cenP p) (celT p i j)):l=List.map (cenP p) (celT p i (j+1)):=by
 rw[hl,<-cel_f h rfl]
theorem cep_n (hj:j=Int.toNat (Pu.n p)) (hl:l=List.map (cenP p) (celT p i j)):l=List.map (cenP p) (celT p (i+1) 0):=by
 rw[hl,<-cel_n hj rfl]
end
abbrev eC (a:Qn×Qn):List PV:=[pI (Qn.n (Prod.fst a)),jl,pI (Qn.d (Prod.fst a)),jl,pI (Qn.n (Prod.snd a)),jl,pI (Qn.d (Prod.snd a)),jl]
def cpZ:Qn×Qn:=(frZ,frZ)
noncomputable def rf130:Array Tmp×Code×Code:=(rfOf (fn130.body.getD .skip)).getD (#[],.skip,.skip)
noncomputable def ps130:Array Tmp:=rf130.1
noncomputable def as130:Code:=rf130.2.1
noncomputable def bo130:Code:=rf130.2.2
noncomputable abbrev rZP (us:List Value) (fn:FuncId) (D:Nat) (st:LoopState) (pe:Option Code):MO:=.obj (recL fn us ps130 as130 bo130 D st pe)
abbrev dsP:List DV:=[.dead,.bref 21 0,.dead,.bref 23 0,.dead,.dead,.dead,.dead,.dead,.dead,.dead,.dead,.dead,.dead,.dead,.dead,.dead,.dead]
theorem by176:ty176.info.bytes=128:=ae
theorem in176:tab.info? 176=some ty176.info:=ae
theorem sz187:szT tab 187=some 1:=ae
theorem un187:tab.underlying 187=some (.slice 176):=ae
theorem asgP [Fc] (us:List Value) (fn:FuncId) (D v:Nat) (l:List (Qn×Qn)) (c r:Int) (p:Pu):TK Tryz.prog 18 2001 (fun e' s'=>e'=.normal/\Sub 2001 s' ⟨[(1,.bref 21 0),(3,.bref 23 0),(4,vI c),(5,vI r)],[(21,.box 66 [vI (Pu.n p),vS (bsO (Pu.a p)),vS (bsO (Pu.h p)),vL eV (Pu.v p)]),(23,.box 187 [.aref 901 v]),(901,.arr v 8 176 (List.map eC l)),(950,(rZP us fn D .ready none))]⟩) as130 [] ⟨[(1,.bref 21 0),(3,.bref 23 0),(8,vI c),(9,vI r)],[(21,.box 66 [vI (Pu.n p),vS (bsO (Pu.a p)),vS (bsO (Pu.h p)),vL eV (Pu.v p)]),(23,.box 187 [.aref 901 v]),(901,.arr v 8 176 (List.map eC l)),(950,(rZP us fn D .ready none))]⟩:=by
 exact kc (Rn Z ⟨rfl,sb Z Z rfl⟩)
theorem bodP [Fc] (us:List Value) (fn:FuncId) (D v:Nat) (l:List (Qn×Qn)) (c r:Int) (p:Pu) (hl:List.length l<=1000000) (hn:(2<=Pu.n p/\Pu.n p<=16)/\(0<=c/\c<=100)/\(0<=r/\r<=100)):TK Tryz.prog 18 2001 (fun e' s'=>e'=.normal/\Sub 2001 s' ⟨[],(950,rZP us fn D .busy none)::[(23,.box 187 [.aref 901 (v+1)]),(901,.arr (v+1) 8 176 (List.map eC (l++[(jc (Pu.n p) c,jc (Pu.n p) r)]))),(21,.box 66 [vI (Pu.n p),vS (bsO (Pu.a p)),vS (bsO (Pu.h p)),vL eV (Pu.v p)])]⟩) bo130 [] ⟨[(1,.bref 21 0),(3,.bref 23 0),(4,vI c),(5,vI r)],[(21,.box 66 [vI (Pu.n p),vS (bsO (Pu.a p)),vS (bsO (Pu.h p)),vL eV (Pu.v p)]),(23,.box 187 [.aref 901 v]),(901,.arr v 8 176 (List.map eC l)),(950,(rZP us fn D .busy none))]⟩:=by
 exact kc (C Z (w135 p c r hn.1 hn.2.1 hn.2.2) Z Z Z (E Z (B.ja (val:=.pv (.slice (List.map eC [((jc (Pu.n p) c),(jc (Pu.n p) r))]))) (val0:=.aref 2016 0) (m0:=[(2016,.arr 0 8 176 [[pI (Qn.n (Prod.fst ((jc (Pu.n p) c),(jc (Pu.n p) r)))),.lit (.slice none 0 0),pI (Qn.d (Prod.fst ((jc (Pu.n p) c),(jc (Pu.n p) r)))),.lit (.slice none 0 0),pI (Qn.n (Prod.snd ((jc (Pu.n p) c),(jc (Pu.n p) r)))),.lit (.slice none 0 0),pI (Qn.d (Prod.snd ((jc (Pu.n p) c),(jc (Pu.n p) r)))),.lit (.slice none 0 0)]])]) (rd:=[]) ae (fun l=>Frz.arr l _ _ _ _ _) Z) (E Z (B.append Z Z Z un187 in176 Z (fun _=>rfl) by176 cj) (E Z (B.storeR Z Z Z Z sz187 Z Z) (Dr Z ae (Rn Z ⟨rfl,sb Z Z rfl⟩))))))
theorem ylP (us:List Value) (fn:FuncId) (D v:Nat) (l:List (Qn×Qn)) (c r:Int) (p:Pu) (hu:List.length us=18) (hl:List.length l<=1000000) (hn:(2<=Pu.n p/\Pu.n p<=16)/\(0<=c/\c<=100)/\(0<=r/\r<=100)):YldOk Tryz.prog 950 us dsP [vI c,vI r] (qw ((950,rZP us fn D .ready none)::[(23,.box 187 [.aref 901 v]),(901,.arr v 8 176 (List.map eC l)),(21,.box 66 [vI (Pu.n p),vS (bsO (Pu.a p)),vS (bsO (Pu.h p)),vL eV (Pu.v p)])])) (lit (.bool true)) ((950,rZP us fn D .ready none)::[(23,.box 187 [.aref 901 (v+1)]),(901,.arr (v+1) 8 176 (List.map eC (l++[(jc (Pu.n p) c,jc (Pu.n p) r)]))),(21,.box 66 [vI (Pu.n p),vS (bsO (Pu.a p)),vS (bsO (Pu.h p)),vL eV (Pu.v p)])]):=
 YldOk.of (n:=18) (nb:=2001) (tm1:=[(1,.bref 21 0),(3,.bref 23 0),(4,vI c),(5,vI r)]) (l1:=[(21,.box 66 [vI (Pu.n p),vS (bsO (Pu.a p)),vS (bsO (Pu.h p)),vL eV (Pu.v p)]),(23,.box 187 [.aref 901 v]),(901,.arr v 8 176 (List.map eC l)),(950,(rZP us fn D .ready none))]) (ps:=ps130) (assign:=as130) (body:=bo130) true hu Z ah (allLt Z) Z rfl
  (fun r'=>letI ic:Fc:=⟨some r'⟩;TK.start (TK.norm ⟨[(1,.bref 21 0),(3,.bref 23 0),(8,vI c),(9,vI r)],[(21,.box 66 [vI (Pu.n p),vS (bsO (Pu.a p)),vS (bsO (Pu.h p)),vL eV (Pu.v p)]),(23,.box 187 [.aref 901 v]),(901,.arr v 8 176 (List.map eC l)),(950,(rZP us fn D .ready none))]⟩ (sb Z Z Z) (asgP us fn D v l c r p))) rfl
  (fun r'=>letI ic:Fc:=⟨some r'⟩;TK.start (TK.norm ⟨[(1,.bref 21 0),(3,.bref 23 0),(4,vI c),(5,vI r)],[(21,.box 66 [vI (Pu.n p),vS (bsO (Pu.a p)),vS (bsO (Pu.h p)),vL eV (Pu.v p)]),(23,.box 187 [.aref 901 v]),(901,.arr v 8 176 (List.map eC l)),(950,(rZP us fn D .busy none))]⟩ (sb Z Z Z) (bodP us fn D v l c r p hl hn))) (allNe Z) (ndM_ok Z) Z rfl
theorem w204P (us:List Value) (fn:FuncId) (D:Nat) (p:Pu) (hu:List.length us=18) (hP:PuOk p):qD Tryz.prog 204 [.yld 950 us dsP,.bref 20 0] (qw ((950,rZP us fn D .ready none)::[(20,.box 66 [vI (Pu.n p),vS (bsO (Pu.a p)),vS (bsO (Pu.h p)),vL eV (Pu.v p)]),(21,.box 66 [vI (Pu.n p),vS (bsO (Pu.a p)),vS (bsO (Pu.h p)),vL eV (Pu.v p)]),(23,.box 187 [.aref 901 0]),(901,.arr 0 8 176 (List.map eC []))])) (.tup []) (List.reverse ((950,rZP us fn D .ready none)::[(20,.box 66 [vI (Pu.n p),vS (bsO (Pu.a p)),vS (bsO (Pu.h p)),vL eV (Pu.v p)]),(21,.box 66 [vI (Pu.n p),vS (bsO (Pu.a p)),vS (bsO (Pu.h p)),vL eV (Pu.v p)]),(23,.box 187 [.aref 901 (List.length (kN p))]),(901,.arr (List.length (kN p)) 8 176 (List.map eC (kN p)))])):=by
 have hN:=pk_n hP
 refine cL 1001 ((950,rZP us fn D .ready none)::[(20,.box 66 [vI (Pu.n p),vS (bsO (Pu.a p)),vS (bsO (Pu.h p)),vL eV (Pu.v p)]),(21,.box 66 [vI (Pu.n p),vS (bsO (Pu.a p)),vS (bsO (Pu.h p)),vL eV (Pu.v p)]),(23,.box 187 [.aref 901 0]),(901,.arr 0 8 176 (List.map eC []))]) qf204 Z (nB Z) Z Z (kc (l3 (fun (i:Nat) (v:Nat) (l:List (Qn×Qn))=>[(0,.yld 950 us dsP),(1,.bref 20 0),(6,vI (Pu.n p)),(7,vI ((i:Nat):Int))]) (fun _ v l=>[(20,.box 66 [vI (Pu.n p),vS (bsO (Pu.a p)),vS (bsO (Pu.h p)),vL eV (Pu.v p)]),(21,.box 66 [vI (Pu.n p),vS (bsO (Pu.a p)),vS (bsO (Pu.h p)),vL eV (Pu.v p)]),(23,.box 187 [.aref 901 v]),(901,.arr v 8 176 (List.map eC l)),(950,(rZP us fn D .ready none))]) (fun i v l=>i<=Int.toNat (Pu.n p)/\v=List.length l/\l=List.map (cenP p) (celT p i 0)) (fun i _ _=>Int.toNat (Pu.n p)-i) 0 0 [] Z ?_ (sb Z Z Z) ?_))
 · exact⟨zw _,rfl,rfl⟩
 intro i v l hI0
 refine Cp Z Z (fun h1=>?_) (fun h1=>?_)
 ·refine l3 (fun (j:Nat) (u:Nat) (q:List (Qn×Qn))=>[(0,.yld 950 us dsP),(1,.bref 20 0),(3,vI ((i:Nat):Int)),(6,vI (Pu.n p)),(7,vI ((i:Nat):Int)),(11,vI (Pu.n p)),(12,vI ((j:Nat):Int))]) (fun _ u q=>[(20,.box 66 [vI (Pu.n p),vS (bsO (Pu.a p)),vS (bsO (Pu.h p)),vL eV (Pu.v p)]),(21,.box 66 [vI (Pu.n p),vS (bsO (Pu.a p)),vS (bsO (Pu.h p)),vL eV (Pu.v p)]),(23,.box 187 [.aref 901 u]),(901,.arr u 8 176 (List.map eC q)),(950,(rZP us fn D .ready none))]) (fun j u q=>j<=Int.toNat (Pu.n p)/\u=List.length q/\q=List.map (cenP p) (celT p i j)) (fun j _ _=>Int.toNat (Pu.n p)-j) 0 v l Z ?_ (sb Z Z Z) ?_
  · exact⟨zw _,hI0.2.1,hI0.2.2⟩
  intro j u q hI1
  have hq:=cep_m hP (i:=i) (j:=j) aa hI1.1
  rw[<-hI1.2.2] at hq
  refine Cp Z Z (fun h2=>?_) (fun h2=>?_)
  ·refine C Z (w205 p ((j:Nat):Int) ((i:Nat):Int) hP aa aa) Z Z Z ?_
   refine ek Z ?_
   cases h3:(hasB p ((j:Nat):Int) ((i:Nat):Int))
   ·refine Ef' Z Z (Ef' Z Z (Ef' Z Z (Ef' Z Z (Ef' Z Z (E Z (B.pkF Z Z Z Z Z) (CF Z Z (E Z (B.add Z Z bj) (pk Z (L3 (j+1) u q ?_ ?_ (sb Z Z Z))))))))))
    · (first|exact⟨aa,by rw[hI1.2.1,za];rfl,cep_t ab hI1.2.2⟩|exact⟨aa,hI1.2.1,cep_f ab hI1.2.2⟩)
    · omega
   refine Et Z Z (B.run Z) (Et Z Z (B.move Z) (Et Z Z (B.move Z) (Et Z Z (B.yieldS (l:=(950,rZP us fn D .ready none)::[(23,.box 187 [.aref 901 u]),(901,.arr u 8 176 (List.map eC q)),(21,.box 66 [vI (Pu.n p),vS (bsO (Pu.a p)),vS (bsO (Pu.h p)),vL eV (Pu.v p)])]) (ylP us fn D u q ((j:Nat):Int) ((i:Nat):Int) p hu aa ⟨hN,aa,aa⟩) Z Z ⟨rfl,rfl,rfl,rfl,trivial⟩ rfl rfl) (Et Z Z (B.not Z) (E Z (B.pkT Z Z Z Z Z) (Cb Z Z (fun h4=>?_) (fun h4=>?_)))))))
   ·exact absurd h4 ah
   refine E Z (B.add Z Z bj) (pk Z (L3 (j+1) (u+1) (q++[(jc (Pu.n p) ((j:Nat):Int),jc (Pu.n p) ((i:Nat):Int))]) ?_ ?_ (sb Z Z Z)))
   · (first|exact⟨aa,by rw[hI1.2.1,za];rfl,cep_t ab hI1.2.2⟩|exact⟨aa,hI1.2.1,cep_f ab hI1.2.2⟩)
   · omega
  refine E Z (B.add Z Z bj) (pk Z (L3 (i+1) u q ?_ ?_ (sb Z Z Z)))
  · exact⟨aa,hI1.2.1,cep_n aa hI1.2.2⟩
  · omega
 refine Rn Z ?_
 exact q5 (val0:=.tup []) (out0:=[(901,.arr v 8 176 (List.map eC l)),(23,.box 187 [.aref 901 v]),(21,.box 66 [vI (Pu.n p),vS (bsO (Pu.a p)),vS (bsO (Pu.h p)),vL eV (Pu.v p)]),(20,.box 66 [vI (Pu.n p),vS (bsO (Pu.a p)),vS (bsO (Pu.h p)),vL eV (Pu.v p)]),(950,(rZP us fn D .ready none))]) (.inl Z) ae Z (by have e:l=(kN p):=cV;rw[hI0.2.1,e];rfl)
theorem w130 (p:Pu) (hP:PuOk p):CKa 130 [.pv (.agg [pI (Pu.n p),pS (bsO (Pu.a p)),pS (bsO (Pu.h p)),pL eV (Pu.v p)])] (vL eC (kN p)):=by
 refine cL 20 [] qf130 Z (nB Z) Z Z (kc (E Z (B.kg (enc:=eC) Z) (E Z (B.run Z) ?_)))
 refine tk 2 Z ?_
 refine TK.adoptC 23 0 901 8 176 Z Z Z Z ?_
 refine kc (E Z (B.q6 (l:=[]) (w134 p) Z Z trivial Z Z) ?_)
 refine tk 9999 Z ?_
 refine TK.norm ⟨[(1,.bref 21 0),(2,vL eC []),(3,.bref 23 0),(7,.clos (.func 204) [] [.bref 20 0])],[(20,.box 66 [vI (Pu.n p),vS (bsO (Pu.a p)),vS (bsO (Pu.h p)),vL eV (Pu.v p)]),(21,.box 66 [vI (Pu.n p),vS (bsO (Pu.a p)),vS (bsO (Pu.h p)),vL eV (Pu.v p)]),(23,.box 187 [.aref 901 0]),(901,.arr 0 8 176 (List.map eC []))]⟩ (sb Z Z Z) ?_
 refine TK.range (hl:=950) (ds:=dsP) (st:=.ready) (val:=.tup []) (out:=[(20,.box 66 [vI (Pu.n p),vS (bsO (Pu.a p)),vS (bsO (Pu.h p)),vL eV (Pu.v p)]),(21,.box 66 [vI (Pu.n p),vS (bsO (Pu.a p)),vS (bsO (Pu.h p)),vL eV (Pu.v p)]),(23,.box 187 [.aref 901 (List.length (kN p))]),(901,.arr (List.length (kN p)) 8 176 (List.map eC (kN p)))]) false (fun a w=>Tryz.call204 a w) Z Z Z (fun i _=>agD0 (tm:=[(1,.bref 21 0),(2,vL eC []),(3,.bref 23 0),(7,.clos (.func 204) [] [.bref 20 0])]) (ds:=dsP) ⟨rfl,rfl,trivial⟩ i) (fun us fn D hu=>(w204P us fn D p hu hP).rev) ah (allNe Z) ?_
 refine pc ?_
 refine tk 6 Z ?_
 refine TK.cutW (Y:=tab) 1 Z ?_
 refine rc (pk Z (CutW.mk (wk_frzA (t:=17) Z Z) ?_))
 refine rc ?_
 refine Rt Z ?_
 exact q5 (val0:=vL eC (kN p)) (out0:=[]) (.inr Z) ae Z rfl
section
variable {p:Pu}
theorem cen_l (hP:PuOk p):(kN p).length<=1000:=by
 unfold kN kQ
 rw[zJ]
 exact cel_m hP (zC _) (zw _)
end
def samV (f:List Trm) (l:List (Qn×Qn)):List Qn:=l.map fun a=>valM (sumM f) (plF f) (Prod.fst a) (Prod.snd a)
section
variable {f:List Trm} {l:List (Qn×Qn)} {k:Nat} {o:List Qn}
theorem sa_e (ho:o=samV f (List.take k l)) (hk:l.length<=k):o=samV f l:=by rw[ho,zB hk]
theorem sa_s (ho:o=samV f (List.take k l)) (hk:k<l.length):o++[valM (sumM f) (plF f) (Prod.fst (l.getD k cpZ)) (Prod.snd (l.getD k cpZ))]=samV f (List.take (k+1) l):=by
 unfold samV at*
 rw[ho,List.take_succ_eq_append_getElem hk,qc,ze,zm hk];rfl
end
theorem w132 (l:List (Qn×Qn)) (f:List Trm) (hlf:List.length f<=1000000) (hc:qQ f=0) (hP:OkP (plF f)) (hl:List.length l<=1000) (hz:∀ a∈l,EvOk (plF f) (Prod.fst a) (Prod.snd a)):CKa 132 [vL eC l,vL eY f] (vL eF (samV f l)):=by
 refine cL 10 [] qf132 Z (nB Z) Z Z (kc (E Z (B.kg (enc:=eF) Z) (E Z (B.q6 (l:=[]) (w114a f 20 hlf hc) Z Z trivial Z Z) (E Z (B.adopt 16 4 156 Z Z) (E Z (B.jW Z un187) (l2 (fun (k:Nat) (o:List Qn)=>[(5,.clos (.func 115) [.mref 20] []),(6,.aref 16 k),(12,vL eC l),(13,vI ((l.length:Nat):Int)),(14,vI ((k:Nat):Int))]) (fun k o=>[(16,.arr k 4 156 (List.map eF o)),(20,(kO eP (sumM f)))]) (fun k o=>k<=List.length l/\o=samV f (List.take k l)) (fun k _=>List.length l-k) 0 [] Z ?_ (sb Z Z Z) ?_))))))
 · exact⟨zw _,rfl⟩
 intro k o hI0
 have hol:List.length o=k:=by rw[hI0.2,samV,zJ,zn];omega
 refine Cp Z Z (fun h1=>?_) (fun h1=>?_)
 ·refine E Z (B.idx (z:=cpZ) (i:=k) Z Z un187 sz176 (fun _=>rfl) Z ct) (E Z (B.ja Z (fun l=>Frz.jU l Z) Z) (E Z (B.q6 (l:=[(20,(kO eP (sumM f)))]) (w115 (sumM f) (plF f) (Prod.fst (l.getD k cpZ)) (Prod.snd (l.getD k cpZ)) 20 (kp_sum hc) hP (hz _ (jf aa))) Z Z ⟨rfl,trivial⟩ rfl rfl) (E Z (B.ja (val:=.pv (.slice (List.map eF [(valM (sumM f) (plF f) (Prod.fst (l.getD k cpZ)) (Prod.snd (l.getD k cpZ)))]))) (val0:=.aref 32 0) (m0:=[(32,.arr 0 4 156 [[pI (Qn.n (valM (sumM f) (plF f) (Prod.fst (l.getD k cpZ)) (Prod.snd (l.getD k cpZ)))),.lit (.slice none 0 0),pI (Qn.d (valM (sumM f) (plF f) (Prod.fst (l.getD k cpZ)) (Prod.snd (l.getD k cpZ)))),.lit (.slice none 0 0)]])]) (rd:=[]) ae (fun l=>Frz.arr l _ _ _ _ _) Z) (E Z (B.append (enc:=eF) (l:=o) (r:=[(valM (sumM f) (plF f) (Prod.fst (l.getD k cpZ)) (Prod.snd (l.getD k cpZ)))]) Z Z Z kf in156 Z (fun _=>rfl) by156 ct) (E Z (B.add Z Z bj) (pk Z (L2 (k+1) (o++[(valM (sumM f) (plF f) (Prod.fst (l.getD k cpZ)) (Prod.snd (l.getD k cpZ)))]) ?_ ?_ (sb Z Z Z))))))))
  · exact⟨aa,sa_s hI0.2 aa⟩
  · omega
 refine Fz 8 6 Z Z Z ?_
 refine Rt Z ?_
 exact q5 (val0:=vL eF o) (out0:=[]) (.inr Z) ae (by exact lsl (sa_e hI0.2 aa)) rfl
def smE1 (p:Pu) (f:List Trm):Int:=qB [puE p,qQ f]
def smE (p:Pu) (f:List Trm):Int:=if smE1 p f≠0 then smE1 p f else if ((((kN p).length:Nat):Int)=0) then 7 else jh (samV f (kN p))
def smT (p:Pu) (f:List Trm):List (List UInt8):=if smE1 p f≠0 then [] else if ((((kN p).length:Nat):Int)=0) then [] else jZ (samV f (kN p))
section
variable {p:Pu} {f:List Trm}
theorem sm_1 (h:smE1 p f≠0):[]=smT p f:=by unfold smT;rw[if_pos h]
theorem sm_2 (h:smE1 p f≠0):smE1 p f=smE p f:=by unfold smE;rw[if_pos h]
theorem sm_3 (h:¬smE1 p f≠0) (h2:(((kN p).length:Nat):Int)=0):[]=smT p f:=by unfold smT;rw[if_neg h,if_pos h2]
theorem sm_4 (h:¬smE1 p f≠0) (h2:(((kN p).length:Nat):Int)=0):7=smE p f:=by unfold smE;rw[if_neg h,if_pos h2]
theorem sm_5 (h:¬smE1 p f≠0) (h2:¬(((kN p).length:Nat):Int)=0):jZ (samV f (kN p))=smT p f:=by unfold smT;rw[if_neg h,if_neg h2]
theorem sm_6 (h:¬smE1 p f≠0) (h2:¬(((kN p).length:Nat):Int)=0):jh (samV f (kN p))=smE p f:=by unfold smE;rw[if_neg h,if_neg h2]
theorem sm_0 (h:¬smE1 p f≠0):puE p=0/\qQ f=0:=by
 have h:=zi.1 h
 unfold smE1 at h
 rw[kL,kL] at h
 exact⟨h.1,h.2.1⟩
theorem sm_p (h:¬smE1 p f≠0):puE p=0:=(sm_0 h).1
theorem sm_f (h:¬smE1 p f≠0):qQ f=0:=(sm_0 h).2
theorem sm_l (hq:PuB p) (h:¬smE1 p f≠0):(samV f (kN p)).length<=1000000:=by
 unfold samV
 rw[zJ]
 exact qh (cen_l (hq.ok (sm_p h))) ah
theorem sm_s (h:¬smE1 p f≠0) (hz:qQ f=0->OkP (plF f)/\∀ a∈kN p,EvOk (plF f) (Prod.fst a) (Prod.snd a)):∀ a∈samV f (kN p),sz (Qn.q a)<=62:=by
 intro a ha
 unfold samV at ha
 obtain⟨b,hb,rfl⟩:=zF.1 ha
 exact valM_s (kp_sum (sm_f h)) ((hz (sm_f h)).2 b hb)
end
theorem w36 (hp:qX) (p:Pu) (f:List Trm) (hlf:List.length f<=1000000) (hsf:∀ t∈f,List.length (Trm.c t)<=18) (hq:PuB p) (hz:qQ f=0->OkP (plF f)/\∀ a∈kN p,EvOk (plF f) (Prod.fst a) (Prod.snd a)):CKa 36 [.pv (.agg [pI (Pu.n p),pS (bsO (Pu.a p)),pS (bsO (Pu.h p)),pL eV (Pu.v p)]),vL eY f] (.tup [vL eN (smT p f),vI (smE p f)]):=by
 refine cL 10 [] qf36 Z (nB Z) Z Z (kc (E Z (B.kg (enc:=eN) Z) (C Z (w76 p hq.a (fun e=>qh (hq.az e) ah) hq.h (fun e e2=>by have:=hq.az e;have:=hq.hz e2;omega) hq.l hq.v (fun v hv e=>qh (hq.vz v hv e).1 ah)) Z Z Z (C Z (w81 f hlf hsf) Z Z Z (E Z (B.ja (val:=.pv (.slice (List.map eI [(puE p),(qQ f)]))) (val0:=.aref 22 0) (m0:=[(22,.arr 0 1 24 [[pI (puE p)],[pI (qQ f)]])]) (rd:=[]) ae (fun l=>Frz.arr l _ _ _ _ _) Z) (C Z (w98 [(puE p),(qQ f)] (nB Z)) Z Z Z (Cp Z Z (fun h1=>?_) (fun h1=>?_))))))))
 ·refine E Z (B.kg (enc:=eN) Z) ?_
  refine Rt Z ?_
  exact q5 (val0:=.tup [vL eN [],vI (qB [(puE p),(qQ f)])]) (out0:=[]) (.inr Z) ae cX rfl
 refine C Z (w130 p (PuB.ok hq (sm_p ab))) Z Z Z (E Z (B.jW Z un187) (Cp Z Z (fun h2=>?_) (fun h2=>?_)))
 ·refine E Z (B.kg (enc:=eN) Z) ?_
  refine Rt Z ?_
  exact q5 (val0:=.tup [vL eN [],vI 7]) (out0:=[]) (.inr Z) ae cX rfl
 refine C Z (w132 (kN p) f hlf (sm_f ab) (hz (sm_f ab)).1 (cen_l (PuB.ok hq (sm_p ab))) (hz (sm_f ab)).2) Z Z Z (C Z (w131 hp (samV f (kN p)) (sm_l hq ab) (sm_s ab hz)) Z Z Z ?_)
 refine Rt Z ?_
 exact q5 (val0:=.tup [vL eN (jZ (samV f (kN p))),vI (jh (samV f (kN p)))]) (out0:=[]) (.inr Z) ae cX rfl
abbrev eYL (f:List Trm):List PV:=[pL eY f]
def chkM (l:List (List Trm)):Int:=qB [qR (decide (((l.length:Nat):Int)=0)) 12,qR (decide (16<((l.length:Nat):Int))) 5,jn qQ l]
theorem sz23:szT tab 23=some 1:=ae
theorem un87:tab.underlying 87=some (.slice 23):=ae
theorem w209 (l:List (List Trm)) (hl:List.length l<=1000000) (hs:∀ f∈l,List.length f<=1000000/\∀ t∈f,List.length (Trm.c t)<=18):CKa 209 [vL eYL l,.pv (.fn (.func 81) [] [])] (vI (jn qQ l)):=by
 refine cG qf209 Z (nB Z) Z (E Z (B.jW Z un87) (l1 (fun (k:Nat)=>[(1,.pv (.fn (.func 81) [] [])),(8,vL eYL l),(9,vI ((l.length:Nat):Int)),(10,vI ((k:Nat):Int))]) (fun _=>[]) (fun k=>k<=List.length l/\jn qQ l=jn qQ (List.drop k l)) (fun k=>List.length l-k) 0 Z ?_ (sb Z Z Z) ?_))
 · exact⟨zw _,rfl⟩
 intro k hI0
 refine Cp Z Z (fun h1=>?_) (fun h1=>?_)
 ·refine E Z (B.idx (z:=[]) (i:=k) Z Z un87 sz23 (fun _=>rfl) Z aa) (C Z (w81 (l.getD k []) (hs _ (jf aa)).1 (hs _ (jf aa)).2) Z Z Z (Cp Z Z (fun h2=>?_) (fun h2=>?_)))
  ·exact Rt Z (leaf (val0:=vI (qQ (l.getD k []))) ae (li bO))
  refine E Z (B.add Z Z bj) (pk Z (L1 (k+1) ?_ ?_ (sb Z Z Z)))
  · (exact⟨aa,by rw[hI0.2];exact ea_step aa ab⟩)
  · omega
 exact Rt Z (leaf (val0:=vI 0) ae (li bO))
theorem w142 (l:List (List Trm)) (hl:List.length l<=1000000) (hs:∀ f∈l,List.length f<=1000000/\∀ t∈f,List.length (Trm.c t)<=18):CKa 142 [vL eYL l] (vI (chkM l)):=by
 exact cG qf142 Z (nB Z) Z (E Z (B.jW Z un87) (C Z (w99 (decide (((l.length:Nat):Int)=0)) 12) Z Z Z (E Z (B.jW Z un87) (C Z (w99 (decide (16<((l.length:Nat):Int))) 5) Z Z Z (C Z (w209 l hl hs) Z Z Z (E Z (B.ja (val:=.pv (.slice (List.map eI [(qR (decide (((l.length:Nat):Int)=0)) 12),(qR (decide (16<((l.length:Nat):Int))) 5),(jn qQ l)]))) Z (fun l=>Frz.arr l _ _ _ _ _) Z) (C Z (w98 [(qR (decide (((l.length:Nat):Int)=0)) 12),(qR (decide (16<((l.length:Nat):Int))) 5),(jn qQ l)] (nB Z)) Z Z Z (Rt Z (leaf (val0:=vI (qB [(qR (decide (((l.length:Nat):Int)=0)) 12),(qR (decide (16<((l.length:Nat):Int))) 5),(jn qQ l)])) ae (li bi))))))))))
def sqE (p:Pu) (k:KI) (s:Int):Int:=qB [qF (Prod.fst k) 0 (Pu.n p-1),qF (Prod.snd k) 0 (Pu.n p-1),qF s 1 (wr64 (Pu.n p-max (Prod.fst k) (Prod.snd k)))]
theorem w133 (p:Pu) (k:KI) (s:Int) (hn:2<=Pu.n p/\Pu.n p<=16):CKa 133 [.pv (.agg [pI (Pu.n p),pS (bsO (Pu.a p)),pS (bsO (Pu.h p)),pL eV (Pu.v p)]),.pv (.agg [pI (Prod.fst k),pI (Prod.snd k)]),vI s] (vI (sqE p k s)):=by
 refine cL 10 [] qf133 Z (nB Z) Z Z (kc (E Z (B.sub Z Z bj) (E Z (B.run Z) (C Z (w97 (Prod.fst k) 0 ((Pu.n p)-1)) Z Z Z (E Z (B.run Z) (C Z (w97 (Prod.snd k) 0 ((Pu.n p)-1)) Z Z Z (E Z (B.run Z) (E Z (B.run Z) (E Z (B.max Z Z) (E Z (B.subW Z Z) (C Z (w97 s 1 (wr64 ((Pu.n p)-(max (Prod.fst k) (Prod.snd k))))) Z Z Z (E Z (B.ja (val:=.pv (.slice (List.map eI [(qF (Prod.fst k) 0 ((Pu.n p)-1)),(qF (Prod.snd k) 0 ((Pu.n p)-1)),(qF s 1 (wr64 ((Pu.n p)-(max (Prod.fst k) (Prod.snd k)))))]))) (val0:=.aref 39 0) (m0:=[(39,.arr 0 1 24 [[pI (qF (Prod.fst k) 0 ((Pu.n p)-1))],[pI (qF (Prod.snd k) 0 ((Pu.n p)-1))],[pI (qF s 1 (wr64 ((Pu.n p)-(max (Prod.fst k) (Prod.snd k)))))]])]) (rd:=[]) ae (fun l=>Frz.arr l _ _ _ _ _) Z) (C Z (w98 [(qF (Prod.fst k) 0 ((Pu.n p)-1)),(qF (Prod.snd k) 0 ((Pu.n p)-1)),(qF s 1 (wr64 ((Pu.n p)-(max (Prod.fst k) (Prod.snd k)))))] (nB Z)) Z Z Z ?_)))))))))))))
 refine Dr Z ae ?_
 refine Rt Z ?_
 exact q5 (val0:=vI (qB [(qF (Prod.fst k) 0 ((Pu.n p)-1)),(qF (Prod.snd k) 0 ((Pu.n p)-1)),(qF s 1 (wr64 ((Pu.n p)-(max (Prod.fst k) (Prod.snd k)))))])) (out0:=[]) (.inr Z) ae Z rfl
abbrev eNL (v:List (List UInt8)):List PV:=[pL eN v]
def chkBv (b:List (List (List UInt8))) (v:List (List UInt8)):Int:=qB [chkV v,qR (decide (((v.length:Nat):Int)≠(((b.getD 0 []).length:Nat):Int))) 2]
def chkB1 (b:List (List (List UInt8))):Int:=qB [qR (decide (((b.length:Nat):Int)=0)) 12,qR (decide (16<((b.length:Nat):Int))) 5]
def chkB (b:List (List (List UInt8))):Int:=if chkB1 b≠0 then chkB1 b else jn (chkBv b) b
section
variable {b:List (List (List UInt8))}
theorem bs_1 (h:chkB1 b≠0):chkB1 b=chkB b:=by unfold chkB;rw[if_pos h]
theorem bs_2 (h:¬chkB1 b≠0):jn (chkBv b) b=chkB b:=by unfold chkB;rw[if_neg h]
theorem bs_0 (h:¬chkB1 b≠0):0<List.length b:=by
 have h:=zi.1 h
 unfold chkB1 at h
 rw[kL,wh_0 ah,zH] at h
 omega
end
theorem ag61:aggT tab 61=some false:=ae
theorem sz61:szT tab 61=some 1:=ae
theorem un84:tab.underlying 84=some (.slice 61):=ae
theorem w226 (v:List (List UInt8)) (b:List (List (List UInt8))) (hv:List.length v<=1000000/\∀ s∈v,List.length s<=18) (hb:0<List.length b):qD Tryz.prog 226 [vL eN v,.bref 11 0] (qw [(11,.box 84 [vL eNL b])]) (vI (chkBv b v)) [(11,.box 84 [vL eNL b])]:=by
 refine cL 12 [(11,.box 84 [vL eNL b])] qf226 Z (nB Z) Z Z (kc (C Z (w172 v hv.1 hv.2) Z Z Z (E Z (B.jW Z un61) (E Z (B.idx (z:=[]) (i:=0) Z Z un84 sz61 (fun _=>rfl) Z aa) (E Z (B.jW Z un61) (C Z (w99 (decide (((v.length:Nat):Int)≠((List.length (b.getD 0 []):Nat):Int))) 2) Z Z Z (E Z (B.ja (val:=.pv (.slice (List.map eI [(chkV v),(qR (decide (((v.length:Nat):Int)≠((List.length (b.getD 0 []):Nat):Int))) 2)]))) (val0:=.aref 26 0) (m0:=[(26,.arr 0 1 24 [[pI (chkV v)],[pI (qR (decide (((v.length:Nat):Int)≠((List.length (b.getD 0 []):Nat):Int))) 2)]])]) (rd:=[]) ae (fun l=>Frz.arr l _ _ _ _ _) Z) (C Z (w98 [(chkV v),(qR (decide (((v.length:Nat):Int)≠((List.length (b.getD 0 []):Nat):Int))) 2)] (nB Z)) Z Z Z (Dr Z ae ?_)))))))))
 refine Rt Z ?_
 exact q5 (val0:=vI (qB [(chkV v),(qR (decide (((v.length:Nat):Int)≠((List.length (b.getD 0 []):Nat):Int))) 2)])) (out0:=[(11,.box 84 [vL eNL b])]) (.inr Z) ae bi bi
theorem w225 (l b:List (List (List UInt8))) (hl:List.length l<=1000000) (hl2:∀ v∈l,List.length v<=1000000/\∀ s∈v,List.length s<=18) (hb:0<List.length b):qD Tryz.prog 225 [vL eNL l,.clos (.func 226) [] [.bref 11 0]] (qw [(11,.box 84 [vL eNL b])]) (vI (jn (chkBv b) l)) [(11,.box 84 [vL eNL b])]:=by
 refine cL 12 [(11,.box 84 [vL eNL b])] qf225 Z (nB Z) Z Z (kc (E Z (B.jW Z un84) (l1 (fun (k:Nat)=>[(1,.clos (.func 226) [] [.bref 11 0]),(8,vL eNL l),(9,vI ((l.length:Nat):Int)),(10,vI ((k:Nat):Int))]) (fun _=>[(11,.box 84 [vL eNL b])]) (fun k=>k<=List.length l/\jn (chkBv b) l=jn (chkBv b) (List.drop k l)) (fun k=>List.length l-k) 0 Z ?_ (sb Z Z Z) ?_)))
 · exact⟨zw _,rfl⟩
 intro k hI0
 refine Cp Z Z (fun h1=>?_) (fun h1=>?_)
 ·refine E Z (B.idx (z:=[]) (i:=k) Z Z un84 sz61 (fun _=>rfl) Z aa) (E Z (B.q6 (l:=[(11,.box 84 [vL eNL b])]) (w226 (l.getD k []) b (hl2 _ (jf aa)) hb) Z Z ⟨rfl,trivial⟩ rfl rfl) (Cp Z Z (fun h2=>?_) (fun h2=>?_)))
  ·refine Rt Z ?_
   exact q5 (val0:=vI (chkBv b (l.getD k []))) (out0:=[(11,.box 84 [vL eNL b])]) (.inr Z) ae cY bi
  refine E Z (B.add Z Z bj) (pk Z (L1 (k+1) ?_ ?_ (sb Z Z Z)))
  · (exact⟨aa,by rw[hI0.2];exact ea_step aa ab⟩)
  · omega
 refine Rt Z ?_
 exact q5 (val0:=vI 0) (out0:=[(11,.box 84 [vL eNL b])]) (.inr Z) ae cY bi
theorem w171 (b:List (List (List UInt8))) (hl:List.length b<=1000000) (hl2:∀ v∈b,List.length v<=1000000/\∀ s∈v,List.length s<=18):CKa 171 [vL eNL b] (vI (chkB b)):=by
 refine cL 10 [] qf171 Z (nB Z) Z Z (kc (E Z (B.jW Z un84) (C Z (w99 (decide (((b.length:Nat):Int)=0)) 12) Z Z Z (E Z (B.jW Z un84) (C Z (w99 (decide (16<((b.length:Nat):Int))) 5) Z Z Z (E Z (B.ja (val:=.pv (.slice (List.map eI [(qR (decide (((b.length:Nat):Int)=0)) 12),(qR (decide (16<((b.length:Nat):Int))) 5)]))) (val0:=.aref 22 0) (m0:=[(22,.arr 0 1 24 [[pI (qR (decide (((b.length:Nat):Int)=0)) 12)],[pI (qR (decide (16<((b.length:Nat):Int))) 5)]])]) (rd:=[]) ae (fun l=>Frz.arr l _ _ _ _ _) Z) (C Z (w98 [(qR (decide (((b.length:Nat):Int)=0)) 12),(qR (decide (16<((b.length:Nat):Int))) 5)] (nB Z)) Z Z Z (Dr Z ae (Cp Z Z (fun h1=>?_) (fun h1=>?_))))))))))
 ·refine Rt Z ?_
  exact q5 (val0:=vI (qB [(qR (decide (((b.length:Nat):Int)=0)) 12),(qR (decide (16<((b.length:Nat):Int))) 5)])) (out0:=[]) (.inr Z) ae cZ rfl
 refine E Z (B.q6 (l:=[(11,.box 84 [vL eNL b])]) (w225 b b hl hl2 (bs_0 ab)) Z Z ⟨rfl,trivial⟩ rfl rfl) ?_
 refine Rt Z ?_
 exact q5 (val0:=vI (jn (chkBv b) b)) (out0:=[]) (.inr Z) ae cZ rfl
abbrev eFL (v:List Qn):List PV:=[pL eF v]
def bQ (b:List (List (List UInt8))):List (List Qn):=b.map (List.map qJ)
def OrOk (x y:List Qn):Prop:=DotOk x y frZ/\sz (Qn.q (jF x y frZ))<=62
def orN (us:List (List Qn)) (v:List Qn):Int:=if jz (Qn.q (jF v v frZ)).num=0 then 6 else if us.any (fun e=>decide (jz (Qn.q (jF v e frZ)).num≠0)) then 18 else 0
def orE:List (List Qn)->List (List Qn)->Int
 | [],_=>0
 | v::l,us=>if orN us v=0 then orE l (us++[v]) else orN us v
def orT (b:List (List (List UInt8))):List (List Qn):=if orE (bQ b) []=0 then bQ b else []
section
variable {b:List (List (List UInt8))} {k j:Nat} {o us:List (List Qn)} {v:List (List UInt8)} {x y:List Qn} {e:Int}
theorem og_1 (hc:chkB b=0):chkB1 b=0/\jn (chkBv b) b=0:=by
 unfold chkB at hc
 by_cases h:chkB1 b=0
 ·rw[if_neg (by rw[h];simp)] at hc;exact⟨h,hc⟩
 rw[if_pos h] at hc;exact absurd hc h
theorem og_16 (hc:chkB b=0):b.length<=16:=by
 have h:=(og_1 hc).1
 unfold chkB1 at h
 rw[kL,kL,wh_0 ah,wh_0 ah,zH,zH] at h
 have:=h.2.1
 omega
theorem og_c (hc:chkB b=0) (hv:v∈b):v.length<=256/\jn jg v=0/\v.length=(b.getD 0 []).length:=by
 have h:=eachE_0 (og_1 hc).2 v hv
 unfold chkBv at h
 rw[kL,kL,wh_0 ah,zH] at h
 have h2:=h.1
 unfold chkV at h2
 rw[kL,kL,wh_0 ah,zH] at h2
 exact⟨aa,h2.2.1,by have:=h.2.1;omega⟩
theorem og_l (hc:chkB b=0) (hv:v∈b):v.length<=1000000:=by have:=(og_c hc hv).1;omega
theorem og_v (hc:chkB b=0) (hv:v∈b):∀ s∈v,jg s=0:=eachE_0 (og_c hc hv).2.1
theorem og_m (hk:k<b.length):List.map qJ (b.getD k [])∈bQ b:=zF.2 ⟨_,jf hk,rfl⟩
theorem og_o (ho:o=List.take k (bQ b)) (hj:j<o.length):List.getD o j []∈bQ b:=by
 have h:=jf (z:=[]) hj
 rw[ho] at h ⊢
 exact zx h
theorem og_e (hc:chkB b=0) (hx:x∈bQ b) (hy:y∈bQ b):x.length=y.length/\x.length<=1000000:=by
 obtain⟨v,hv,rfl⟩:=zF.1 hx
 obtain⟨w,hw,rfl⟩:=zF.1 hy
 have h1:=og_c hc hv
 have h2:=og_c hc hw
 simp only[zJ]
 omega
theorem og_j (hI:∀ i,i<j->jz (Qn.q (jF x (o.getD i []) frZ)).num=0) (h:jz (Qn.q (jF x (o.getD j []) frZ)).num=0):∀ i,i<j+1->jz (Qn.q (jF x (o.getD i []) frZ)).num=0:=fun i hi=>by
 by_cases e:i=j
 ·rw[e];exact h
 exact hI i aa
theorem og_d (hk:k<b.length):List.drop k (bQ b)=List.map qJ (b.getD k [])::List.drop (k+1) (bQ b):=by
 have hl:k<(bQ b).length:=by simpa [bQ] using hk
 rw[List.drop_eq_getElem_cons hl]
 congr 1
 simp[bQ,ze,zm hk]
theorem og_s (ho:o=List.take k (bQ b)) (hk:k<b.length):o++[List.map qJ (b.getD k [])]=List.take (k+1) (bQ b):=by
 have hl:k<(bQ b).length:=by simpa [bQ] using hk
 rw[ho,List.take_succ_eq_append_getElem hl]
 congr 2
 simp[bQ,ze,zm hk]
theorem og_0 (h2:¬jz (Qn.q (jF x x frZ)).num=0) (hI:∀ i,i<j->jz (Qn.q (jF x (us.getD i []) frZ)).num=0) (hj:us.length<=j):orN us x=0:=by
 unfold orN
 rw[if_neg h2]
 have:(us.any fun e=>decide (jz (Qn.q (jF x e frZ)).num≠0))=false:=by
  rw[List.any_eq_false]
  intro w hw
  obtain⟨i,hi,rfl⟩:=List.getElem_of_mem hw
  have:=hI i aa
  rw[ze,zm hi] at this
  simpa using this
 rw[this];rfl
theorem og_n (ho:o=List.take k (bQ b)) (he:e=orE (List.drop k (bQ b)) (List.take k (bQ b))) (hk:k<b.length) (h2:¬jz (Qn.q (jF (List.map qJ (b.getD k [])) (List.map qJ (b.getD k [])) frZ)).num=0) (hI:∀ i,i<j->jz (Qn.q (jF (List.map qJ (b.getD k [])) (o.getD i []) frZ)).num=0) (hj:o.length<=j) :
  e=orE (List.drop (k+1) (bQ b)) (List.take (k+1) (bQ b)):=by
 rw[he,og_d hk,orE,if_pos (og_0 h2 (by rw[<-ho];exact hI) (by rw[<-ho];exact hj)),<-og_s Z hk]
theorem og_6 (hk:k<b.length) (h2:jz (Qn.q (jF (List.map qJ (b.getD k [])) (List.map qJ (b.getD k [])) frZ)).num=0):orE (List.drop k (bQ b)) us=6:=by
 rw[og_d hk,orE]
 have:orN us (List.map qJ (b.getD k []))=6:=by unfold orN;rw[if_pos h2]
 rw[this];rfl
theorem og_18 (ho:o=List.take k (bQ b)) (hk:k<b.length) (h2:¬jz (Qn.q (jF (List.map qJ (b.getD k [])) (List.map qJ (b.getD k [])) frZ)).num=0) (hj:j<o.length) (h4:jz (Qn.q (jF (List.map qJ (b.getD k [])) (o.getD j []) frZ)).num≠0):orE (List.drop k (bQ b)) (List.take k (bQ b))=18:=by
 rw[og_d hk,orE,<-ho]
 have h:(o.any fun e=>decide (jz (Qn.q (jF (List.map qJ (b.getD k [])) e frZ)).num≠0))=true:=List.any_eq_true.2 ⟨_,jf hj,zl h4⟩
 have:orN o (List.map qJ (b.getD k []))=18:=by unfold orN;rw[if_neg h2,h];rfl
 rw[this];rfl
theorem og_t (he:orE (bQ b) []=orE (List.drop k (bQ b)) (List.take k (bQ b))) (hN:orE (List.drop k (bQ b)) (List.take k (bQ b))=e) (h0:e≠0):DV.tup [vL eFL [],vI e]=.tup [vL eFL (orT b),vI (orE (bQ b) [])]:=by
 have h:orE (bQ b) []=e:=he.trans hN
 unfold orT
 rw[h,if_neg h0]
theorem og_u (ho:o=List.take k (bQ b)) (he:orE (bQ b) []=orE (List.drop k (bQ b)) (List.take k (bQ b))) (hk:b.length<=k):DV.tup [vL eFL o,vI 0]=.tup [vL eFL (orT b),vI (orE (bQ b) [])]:=by
 have hl:(bQ b).length<=k:=by simpa [bQ] using hk
 have h:orE (bQ b) []=0:=by rw[he,zW hl];rfl
 unfold orT
 rw[h,if_pos rfl,ho,zB hl]
end
theorem ag190:aggT tab 190=some false:=ae
theorem by190:ty190.info.bytes=24:=ae
theorem in190:tab.info? 190=some ty190.info:=ae
theorem sz190:szT tab 190=some 1:=ae
theorem un202:tab.underlying 202=some (.slice 190):=ae
theorem w173 (b:List (List (List UInt8))) (hc:chkB b=0) (hz:∀ v∈bQ b,∀ u∈bQ b,OrOk v u):CKa 173 [vL eNL b] (.tup [vL eFL (orT b),vI (orE (bQ b) [])]):=by
 refine cL 10 [] qf173 Z (nB Z) Z Z (kc (E Z (B.kg (enc:=eFL) Z) (E Z (B.adopt 14 1 190 Z Z) (E Z (B.jW Z un84) (l2 (fun (k:Nat) (o:List (List Qn))=>[(4,.aref 14 k),(10,vL eNL b),(11,vI ((b.length:Nat):Int)),(12,vI ((k:Nat):Int))]) (fun k o=>[(14,.arr k 1 190 (List.map eFL o))]) (fun k o=>k<=List.length b/\o=List.take k (bQ b)/\orE (bQ b) []=orE (List.drop k (bQ b)) (List.take k (bQ b))) (fun k _=>List.length b-k) 0 [] Z ?_ (sb Z Z Z) ?_)))))
 · exact⟨zw _,rfl,rfl⟩
 intro k o hI0
 have hol:List.length o=k:=by rw[hI0.2.1,zn,bQ,zJ];omega
 have hb8:=og_16 hc
 refine Cp Z Z (fun h1=>?_) (fun h1=>?_)
 ·refine E Z (B.idx (z:=[]) (i:=k) Z Z un84 sz61 (fun _=>rfl) Z ct) (E Z (B.q6 (l:=[]) (w174 (b.getD k []) (og_l hc (jf aa)) (og_v hc (jf aa))) Z Z trivial Z Z) (Fz 6 7 Z Z Z (C Z (w144 (List.map qJ (b.getD k [])) (List.map qJ (b.getD k [])) (og_e hc (og_m (k:=k) aa) (og_m (k:=k) aa)).1 (og_e hc (og_m (k:=k) aa) (og_m (k:=k) aa)).2 (hz _ (og_m (k:=k) aa) _ (og_m (k:=k) aa)).1) Z Z Z (C Z (w145 (jF (List.map qJ (b.getD k [])) (List.map qJ (b.getD k [])) frZ) (qh (hz _ (og_m (k:=k) aa) _ (og_m (k:=k) aa)).2 ah)) Z Z Z (Cp Z Z (fun h2=>?_) (fun h2=>?_))))))
  ·refine E Z (B.kg (enc:=eFL) Z) ?_
   refine Rt Z ?_
   exact q5 (val0:=.tup [vL eFL [],vI 6]) (out0:=[]) (.inr Z) ae da rfl
  refine E Z (B.lenA Z Z un202) (l1 (fun (j:Nat)=>[(4,.aref 14 k),(7,vL eF (List.map qJ (b.getD k []))),(10,vL eNL b),(11,vI ((b.length:Nat):Int)),(12,vI ((k:Nat):Int)),(23,.aref 14 k),(24,vI ((o.length:Nat):Int)),(25,vI ((j:Nat):Int))]) (fun _=>[(14,.arr k 1 190 (List.map eFL o))]) (fun j=>j<=List.length o/\∀ i,i<j->jz (Qn.q (jF (List.map qJ (b.getD k [])) (o.getD i []) frZ)).num=0) (fun j=>List.length o-j) 0 Z ?_ (sb Z Z Z) ?_)
  · exact⟨zw _,fun i hi=>aa⟩
  intro j hI1
  refine Cp Z Z (fun h3=>?_) (fun h3=>?_)
  ·refine E Z (B.idxE (n:=j) Z Z Z un202 sz190 Z ct) (E Z (B.loadE (n:=j) (z0:=[]) Z Z ag190 sz190 ct Z) (C Z (w144 (List.map qJ (b.getD k [])) (o.getD j []) (og_e hc (og_m (k:=k) aa) (og_o (j:=j) hI0.2.1 aa)).1 (og_e hc (og_m (k:=k) aa) (og_o (j:=j) hI0.2.1 aa)).2 (hz _ (og_m (k:=k) aa) _ (og_o (j:=j) hI0.2.1 aa)).1) Z Z Z (C Z (w145 (jF (List.map qJ (b.getD k [])) (o.getD j []) frZ) (qh (hz _ (og_m (k:=k) aa) _ (og_o (j:=j) hI0.2.1 aa)).2 ah)) Z Z Z (Cp Z Z (fun h4=>?_) (fun h4=>?_)))))
   ·refine E Z (B.kg (enc:=eFL) Z) ?_
    refine Rt Z ?_
    exact q5 (val0:=.tup [vL eFL [],vI 18]) (out0:=[]) (.inr Z) ae da rfl
   refine E Z (B.add Z Z bj) (pk Z (L1 (j+1) ?_ ?_ (sb Z Z Z)))
   · exact⟨aa,og_j hI1.2 (zi.1 ab)⟩
   · omega
  refine E Z (B.ja (val:=.pv (.slice (List.map eFL [(List.map qJ (b.getD k []))]))) (val0:=.aref 47 0) (m0:=[(47,.arr 0 1 190 [[pL eF (List.map qJ (b.getD k []))]])]) (rd:=[]) ae (fun l=>Frz.arr l _ _ _ _ _) Z) (E Z (B.append (enc:=eFL) (l:=o) (r:=[(List.map qJ (b.getD k []))]) Z Z Z un202 in190 Z (fun _=>rfl) by190 ct) (E Z (B.add Z Z bj) (pk Z (L2 (k+1) (o++[(List.map qJ (b.getD k []))]) ?_ ?_ (sb Z Z Z)))))
  · exact⟨aa,og_s hI0.2.1 aa,og_n hI0.2.1 hI0.2.2 aa ab hI1.2 aa⟩
  · omega
 refine Fz 16 4 Z Z Z ?_
 refine Rt Z ?_
 exact q5 (val0:=.tup [vL eFL o,vI 0]) (out0:=[]) (.inr Z) ae da rfl
def exC (r e:List Qn):Qn:=Qn.dv (jF r e frZ) (jF e e frZ)
def expS (s:List Qn) (l:List (List Qn)):List Qn×List Qn:=l.foldl (fun a e=>(a.1++[exC a.2 e],Zm a.2 (exC a.2 e) e)) ([],s)
structure ExK (b:List (List (List UInt8))) (h:List (List UInt8)) (k:Nat):Prop where
 q:List.length (expS (List.map qJ h) (List.take k (orT b))).2=List.length (List.getD (orT b) k [])
 r:List.length (expS (List.map qJ h) (List.take k (orT b))).2<=1000000
 d:DotOk (expS (List.map qJ h) (List.take k (orT b))).2 (List.getD (orT b) k []) frZ
 n:List.length (List.getD (orT b) k [])<=1000000
 e:DotOk (List.getD (orT b) k []) (List.getD (orT b) k []) frZ
 s:sz (Qn.q (jF (expS (List.map qJ h) (List.take k (orT b))).2 (List.getD (orT b) k []) frZ))+sz (Qn.q (jF (List.getD (orT b) k []) (List.getD (orT b) k []) frZ))<=62
 z:Qn.q (jF (List.getD (orT b) k []) (List.getD (orT b) k []) frZ)≠0
 l:LessOk (expS (List.map qJ h) (List.take k (orT b))).2 (exC (expS (List.map qJ h) (List.take k (orT b))).2 (List.getD (orT b) k [])) (List.getD (orT b) k [])
def SzL (l:List Qn):Prop:=List.length l<=1000000/\∀ a∈l,sz (Qn.q a)<=62
def ExOk (b:List (List (List UInt8))) (h:List (List UInt8)):Prop:=(∀ k,k<List.length (orT b)->ExK b h k)/\SzL (expS (List.map qJ h) (orT b)).1/\SzL (expS (List.map qJ h) (orT b)).2
def exX (b:List (List (List UInt8))) (h:List (List UInt8)):List (List UInt8)×List (List UInt8)×Int:=
 if qB [chkB b,chkV h]≠0 then ([],[],qB [chkB b,chkV h]) else if ((h.length:Nat):Int)≠(((b.getD 0 []).length:Nat):Int) then ([],[],2) else if orE (bQ b) []≠0 then ([],[],orE (bQ b) []) else
 if qB [jh (expS (List.map qJ h) (orT b)).1,jh (expS (List.map qJ h) (orT b)).2]≠0 then ([],[],qB [jh (expS (List.map qJ h) (orT b)).1,jh (expS (List.map qJ h) (orT b)).2]) else (jZ (expS (List.map qJ h) (orT b)).1,jZ (expS (List.map qJ h) (orT b)).2,0)
abbrev exR (b:List (List (List UInt8))) (h:List (List UInt8)):DV:=.tup [vL eN (exX b h).1,vL eN (exX b h).2.1,vI (exX b h).2.2]
section
variable {b:List (List (List UInt8))} {h:List (List UInt8)} {k:Nat} {o r:List Qn}
theorem og_0b (hc:chkB b=0):0<b.length:=bs_0 (by rw[(og_1 hc).1];simp)
theorem ex_b (h1:¬qB [chkB b,chkV h]≠0):chkB b=0:=by
 have:=zi.1 h1
 rw[kL] at this;exact this.1
theorem ex_v (h1:¬qB [chkB b,chkV h]≠0):∀ s∈h,jg s=0:=by
 have:=zi.1 h1
 rw[kL,kL] at this
 have h2:=this.2.1
 unfold chkV at h2
 rw[kL,kL] at h2
 exact eachE_0 h2.2.1
theorem ex_16 (h1:¬qB [chkB b,chkV h]≠0):(orT b).length<=16:=by
 have:=og_16 (ex_b h1)
 unfold orT
 split
 ·simpa [bQ] using this
 simp
theorem ex_len (s:List Qn):∀ (l:List (List Qn)) (a:List Qn×List Qn),(l.foldl (fun a e=>(a.1++[exC a.2 e],Zm a.2 (exC a.2 e) e)) a).1.length=a.1.length+l.length
 | [],a=>rfl
 | e::l,a=>by
  rw[List.foldl_cons,ex_len s l]
  simp;omega
theorem ex_k (hI:(o,r)=expS (List.map qJ h) (List.take k (orT b))) (hk:k<=List.length (orT b)):o.length=k:=by
 have:=ex_len [] (List.take k (orT b)) ([],List.map qJ h)
 have e:o=(expS (List.map qJ h) (List.take k (orT b))).1:=by rw[<-hI]
 rw[e];unfold expS;rw[this,zn];simp;omega
theorem ex_n (hI:(o,r)=expS (List.map qJ h) (List.take k (orT b))) (hk:k<List.length (orT b)):(o++[exC r (List.getD (orT b) k [])],Zm r (exC r (List.getD (orT b) k [])) (List.getD (orT b) k []))=expS (List.map qJ h) (List.take (k+1) (orT b)):=by
 rw[List.take_succ_eq_append_getElem hk]
 unfold expS at*
 rw[List.foldl_append,<-hI,ze,zm hk];rfl
theorem ex_q (hI:(o,r)=expS (List.map qJ h) (List.take k (orT b))) (hK:∀ k,k<List.length (orT b)->ExK b h k) (hk:k<List.length (orT b)):List.length r=List.length (List.getD (orT b) k []):=by have:=(hK k hk).q;rw[<-hI] at this;exact this
theorem ex_r (hI:(o,r)=expS (List.map qJ h) (List.take k (orT b))) (hK:∀ k,k<List.length (orT b)->ExK b h k) (hk:k<List.length (orT b)):List.length r<=1000000:=by have:=(hK k hk).r;rw[<-hI] at this;exact this
theorem ex_d (hI:(o,r)=expS (List.map qJ h) (List.take k (orT b))) (hK:∀ k,k<List.length (orT b)->ExK b h k) (hk:k<List.length (orT b)):DotOk r (List.getD (orT b) k []) frZ:=by have:=(hK k hk).d;rw[<-hI] at this;exact this
theorem ex_s (hI:(o,r)=expS (List.map qJ h) (List.take k (orT b))) (hK:∀ k,k<List.length (orT b)->ExK b h k) (hk:k<List.length (orT b)):sz (Qn.q (jF r (List.getD (orT b) k []) frZ))+sz (Qn.q (jF (List.getD (orT b) k []) (List.getD (orT b) k []) frZ))<=62:=by have:=(hK k hk).s;rw[<-hI] at this;exact this
theorem ex_l (hI:(o,r)=expS (List.map qJ h) (List.take k (orT b))) (hK:∀ k,k<List.length (orT b)->ExK b h k) (hk:k<List.length (orT b)):LessOk r (exC r (List.getD (orT b) k [])) (List.getD (orT b) k []):=by have:=(hK k hk).l;rw[<-hI] at this;exact this
theorem ex_a (hI:(o,r)=expS (List.map qJ h) (List.take k (orT b))) (hk:List.length (orT b)<=k):expS (List.map qJ h) (orT b)=(o,r):=by rw[hI,zB hk]
theorem ex_c (hI:(o,r)=expS (List.map qJ h) (List.take k (orT b))) (hE:SzL (expS (List.map qJ h) (orT b)).1/\SzL (expS (List.map qJ h) (orT b)).2) (hk:List.length (orT b)<=k):SzL o:=by have:=hE.1;rw[ex_a hI hk] at this;exact this
theorem ex_f (hI:(o,r)=expS (List.map qJ h) (List.take k (orT b))) (hE:SzL (expS (List.map qJ h) (orT b)).1/\SzL (expS (List.map qJ h) (orT b)).2) (hk:List.length (orT b)<=k):SzL r:=by have:=hE.2;rw[ex_a hI hk] at this;exact this
theorem ex_1 (h1:qB [chkB b,chkV h]≠0):DV.tup [vL eN [],vL eN [],vI (qB [chkB b,chkV h])]=exR b h:=by unfold exR exX;rw[if_pos h1]
theorem ex_2 (h1:¬qB [chkB b,chkV h]≠0) (h2:((h.length:Nat):Int)≠(((b.getD 0 []).length:Nat):Int)):DV.tup [vL eN [],vL eN [],vI 2]=exR b h:=by unfold exR exX;rw[if_neg h1,if_pos h2]
theorem ex_3 (h1:¬qB [chkB b,chkV h]≠0) (h2:¬((h.length:Nat):Int)≠(((b.getD 0 []).length:Nat):Int)) (h3:orE (bQ b) []≠0):DV.tup [vL eN [],vL eN [],vI (orE (bQ b) [])]=exR b h:=by unfold exR exX;rw[if_neg h1,if_neg h2,if_pos h3]
theorem ex_4 (hI:(o,r)=expS (List.map qJ h) (List.take k (orT b))) (hk:List.length (orT b)<=k) (h1:¬qB [chkB b,chkV h]≠0) (h2:¬((h.length:Nat):Int)≠(((b.getD 0 []).length:Nat):Int)) (h3:¬orE (bQ b) []≠0) (h5:qB [jh o,jh r]≠0):DV.tup [vL eN [],vL eN [],vI (qB [jh o,jh r])]=exR b h:=by unfold exR exX;rw[if_neg h1,if_neg h2,if_neg h3,ex_a hI hk,if_pos h5]
theorem ex_5 (hI:(o,r)=expS (List.map qJ h) (List.take k (orT b))) (hk:List.length (orT b)<=k) (h1:¬qB [chkB b,chkV h]≠0) (h2:¬((h.length:Nat):Int)≠(((b.getD 0 []).length:Nat):Int)) (h3:¬orE (bQ b) []≠0) (h5:¬qB [jh o,jh r]≠0):DV.tup [vL eN (jZ o),vL eN (jZ r),vI 0]=exR b h:=by unfold exR exX;rw[if_neg h1,if_neg h2,if_neg h3,ex_a hI hk,if_neg h5]
end
theorem w89 (hp:qX) (b:List (List (List UInt8))) (h:List (List UInt8)) (hl:List.length b<=1000000) (hl2:∀ v∈b,List.length v<=1000000/\∀ s∈v,List.length s<=18) (hh:List.length h<=1000000/\∀ s∈h,List.length s<=18) (hz:chkB b=0->(∀ v∈bQ b,∀ u∈bQ b,OrOk v u)/\(orE (bQ b) []=0->ExOk b h)):CKa 89 [vL eNL b,vL eN h] (exR b h):=by
 refine cL 10 [] qf89 Z (nB Z) Z Z (kc (E Z (B.kg (enc:=eN) Z) (E Z (B.kg (enc:=eN) Z) (C Z (w171 b hl hl2) Z Z Z (C Z (w172 h hh.1 hh.2) Z Z Z (E Z (B.ja (val:=.pv (.slice (List.map eI [(chkB b),(chkV h)]))) (val0:=.aref 34 0) (m0:=[(34,.arr 0 1 24 [[pI (chkB b)],[pI (chkV h)]])]) (rd:=[]) ae (fun l=>Frz.arr l _ _ _ _ _) Z) (C Z (w98 [(chkB b),(chkV h)] (nB Z)) Z Z Z (Cp Z Z (fun h1=>?_) (fun h1=>?_)))))))))
 ·refine E Z (B.kg (enc:=eN) Z) (E Z (B.kg (enc:=eN) Z) ?_)
  refine Rt Z ?_
  exact q5 (val0:=.tup [vL eN [],vL eN [],vI (qB [(chkB b),(chkV h)])]) (out0:=[]) (.inr Z) ae db rfl
 refine E Z (B.jW Z un61) (E Z (B.idx (z:=[]) (i:=0) Z Z un84 sz61 (fun _=>rfl) Z de) (E Z (B.jW Z un61) (Cp Z Z (fun h2=>?_) (fun h2=>?_))))
 ·refine E Z (B.kg (enc:=eN) Z) (E Z (B.kg (enc:=eN) Z) ?_)
  refine Rt Z ?_
  exact q5 (val0:=.tup [vL eN [],vL eN [],vI 2]) (out0:=[]) (.inr Z) ae db rfl
 refine C Z (w173 b (ex_b ab) (hz (ex_b ab)).1) Z Z Z (Cp Z Z (fun h3=>?_) (fun h3=>?_))
 ·refine E Z (B.kg (enc:=eN) Z) (E Z (B.kg (enc:=eN) Z) ?_)
  refine Rt Z ?_
  exact q5 (val0:=.tup [vL eN [],vL eN [],vI (orE (bQ b) [])]) (out0:=[]) (.inr Z) ae db rfl
 refine E Z (B.q6 (l:=[]) (w174 h hh.1 (ex_v ab)) Z Z trivial Z Z) (Fz 10 10 Z Z Z (E Z (B.adopt 21 4 156 Z Z) (E Z (B.jW Z un202) (l3 (fun (k:Nat) (o:List Qn) (r:List Qn)=>[(10,vL eF r),(11,.aref 21 k),(46,vL eFL (orT b)),(47,vI ((List.length (orT b):Nat):Int)),(48,vI ((k:Nat):Int))]) (fun k o _=>[(21,.arr k 4 156 (List.map eF o))]) (fun k o r=>k<=List.length (orT b)/\(o,r)=expS (List.map qJ h) (List.take k (orT b))) (fun k _ _=>List.length (orT b)-k) 0 [] (List.map qJ h) Z ?_ (sb Z Z Z) ?_))))
 · exact⟨zw _,rfl⟩
 intro k o r hI0
 have hol:List.length o=k:=ex_k hI0.2 hI0.1
 have hb8:=ex_16 ab
 obtain⟨hK,hE⟩:=(hz (ex_b ab)).2 (zi.1 ab)
 refine Cp Z Z (fun h4=>?_) (fun h4=>?_)
 ·refine E Z (B.idx (z:=[]) (i:=k) Z Z un202 sz190 (fun _=>rfl) Z de) (C Z (w144 r (List.getD (orT b) k []) (ex_q hI0.2 hK aa) (ex_r hI0.2 hK aa) (ex_d hI0.2 hK aa)) Z Z Z (C Z (w144 (List.getD (orT b) k []) (List.getD (orT b) k []) Z (hK k aa).n (hK k aa).e) Z Z Z (C Z (w128d (jF r (List.getD (orT b) k []) frZ) (jF (List.getD (orT b) k []) (List.getD (orT b) k []) frZ) (ex_s hI0.2 hK aa) (hK k aa).z) Z Z Z (E Z (B.ja Z (fun l=>Frz.jU l Z) Z) (E Z (B.ja (val:=.pv (.slice (List.map eF [(Qn.dv (jF r (List.getD (orT b) k []) frZ) (jF (List.getD (orT b) k []) (List.getD (orT b) k []) frZ))]))) (val0:=.aref 71 0) (m0:=[(71,.arr 0 4 156 [[pI (Qn.n (Qn.dv (jF r (List.getD (orT b) k []) frZ) (jF (List.getD (orT b) k []) (List.getD (orT b) k []) frZ))),.lit (.slice none 0 0),pI (Qn.d (Qn.dv (jF r (List.getD (orT b) k []) frZ) (jF (List.getD (orT b) k []) (List.getD (orT b) k []) frZ))),.lit (.slice none 0 0)]])]) (rd:=[]) ae (fun l=>Frz.arr l _ _ _ _ _) Z) (E Z (B.append (enc:=eF) (l:=o) (r:=[(Qn.dv (jF r (List.getD (orT b) k []) frZ) (jF (List.getD (orT b) k []) (List.getD (orT b) k []) frZ))]) Z Z Z kf in156 Z (fun _=>rfl) by156 de) (C Z (w143 r (Qn.dv (jF r (List.getD (orT b) k []) frZ) (jF (List.getD (orT b) k []) (List.getD (orT b) k []) frZ)) (List.getD (orT b) k []) (ex_q hI0.2 hK aa) (ex_r hI0.2 hK aa) (ex_l hI0.2 hK aa)) Z Z Z (E Z (B.add Z Z bj) (pk Z (L3 (k+1) (o++[(Qn.dv (jF r (List.getD (orT b) k []) frZ) (jF (List.getD (orT b) k []) (List.getD (orT b) k []) frZ))]) (Zm r (Qn.dv (jF r (List.getD (orT b) k []) frZ) (jF (List.getD (orT b) k []) (List.getD (orT b) k []) frZ)) (List.getD (orT b) k [])) ?_ ?_ (sb Z Z Z)))))))))))
  · exact⟨aa,ex_n hI0.2 aa⟩
  · omega
 refine Fz 18 11 Z Z Z (C Z (w131 hp o (ex_c hI0.2 hE aa).1 (ex_c hI0.2 hE aa).2) Z Z Z (C Z (w131 hp r (ex_f hI0.2 hE aa).1 (ex_f hI0.2 hE aa).2) Z Z Z (E Z (B.ja (val:=.pv (.slice (List.map eI [(jh o),(jh r)]))) (val0:=.aref 90 0) (m0:=[(90,.arr 0 1 24 [[pI (jh o)],[pI (jh r)]])]) (rd:=[]) ae (fun l=>Frz.arr l _ _ _ _ _) Z) (C Z (w98 [(jh o),(jh r)] (nB Z)) Z Z Z (Cp Z Z (fun h5=>?_) (fun h5=>?_))))))
 ·refine E Z (B.kg (enc:=eN) Z) (E Z (B.kg (enc:=eN) Z) ?_)
  refine Rt Z ?_
  exact q5 (val0:=.tup [vL eN [],vL eN [],vI (qB [(jh o),(jh r)])]) (out0:=[]) (.inr Z) ae db rfl
 refine Rt Z ?_
 exact q5 (val0:=.tup [vL eN (jZ o),vL eN (jZ r),vI 0]) (out0:=[]) (.inr Z) ae db rfl
def prjF (us:List (List Qn)) (v:List Qn):List Qn:=us.foldl (fun v e=>Zm v (exC v e) e) v
def gsV (p:Pu) (l:List (List Trm)):Nat->List (List Qn)
 | 0=>[]
 | k+1=>gsV p l k++[prjF (gsV p l k) (samV (l.getD k []) (kN p))]
abbrev gsW (p:Pu) (l:List (List Trm)) (k:Nat):List Qn:=prjF (gsV p l k) (samV (l.getD k []) (kN p))
def gsZ (p:Pu) (l:List (List Trm)) (k:Nat):Prop:=jz (Qn.q (jF (gsW p l k) (gsW p l k) frZ)).num=0
instance (p:Pu) (l:List (List Trm)) (k:Nat):Decidable (gsZ p l k):=by unfold gsZ;infer_instance
def baX (p:Pu) (l:List (List Trm)):List (List (List UInt8))×Int:=
 if qB [puE p,chkM l]≠0 then ([],qB [puE p,chkM l]) else if (((kN p).length:Nat):Int)=0 then ([],7) else if (List.range l.length).any (fun k=>decide (gsZ p l k))=true then ([],14) else
 if jn jh (gsV p l l.length)≠0 then ([],jn jh (gsV p l l.length)) else ((gsV p l l.length).map jZ,0)
abbrev baR (p:Pu) (l:List (List Trm)):DV:=.tup [vL eNL (baX p l).1,vI (baX p l).2]
structure BaU (x y:List Qn):Prop where
 q:List.length x=List.length y
 r:List.length x<=1000000
 d:DotOk x y frZ
 n:List.length y<=1000000
 e:DotOk y y frZ
 s:sz (Qn.q (jF x y frZ))+sz (Qn.q (jF y y frZ))<=62
 z:Qn.q (jF y y frZ)≠0
 l:LessOk x (exC x y) y
def BaOk (p:Pu) (l:List (List Trm)):Prop:=(∀ k,k<l.length->OkP (plF (l.getD k []))/\∀ a∈kN p,EvOk (plF (l.getD k [])) (Prod.fst a) (Prod.snd a))/\(∀ k,k<l.length->∀ j,j<k->BaU (prjF (List.take j (gsV p l k)) (samV (l.getD k []) (kN p))) (List.getD (gsV p l k) j []))/\
 (∀ k,k<l.length->(gsW p l k).length<=1000000/\DotOk (gsW p l k) (gsW p l k) frZ/\sz (Qn.q (jF (gsW p l k) (gsW p l k) frZ))<=62)/\∀ v∈gsV p l l.length,SzL v
section
variable {p:Pu} {l:List (List Trm)} {k j t:Nat} {o:List (List Qn)} {r v:List Qn} {q:List (List (List UInt8))} {f:List Trm}
theorem ba_0 (h:¬qB [puE p,chkM l]≠0):qB [puE p,chkM l]=0:=zi.1 h
theorem ba_1 (h:¬qB [puE p,chkM l]≠0):puE p=0/\chkM l=0:=by have:=ba_0 h;rw[kL,kL] at this;exact⟨this.1,this.2.1⟩
theorem ba_p (h:¬qB [puE p,chkM l]≠0):puE p=0:=(ba_1 h).1
theorem ba_c (h:¬qB [puE p,chkM l]≠0):l.length<=16/\jn qQ l=0:=by
 have:=(ba_1 h).2
 unfold chkM at this
 rw[kL,kL,kL,wh_0 ah,wh_0 ah,zH,zH] at this
 exact⟨by have:=this.2.1;omega,this.2.2.1⟩
theorem ba_16 (h:¬qB [puE p,chkM l]≠0):l.length<=16:=(ba_c h).1
theorem ba_m (h:¬qB [puE p,chkM l]≠0) (hf:f∈l):qQ f=0:=eachE_0 (ba_c h).2 f hf
theorem gs_len:∀ k,(gsV p l k).length=k
 | 0=>rfl
 | k+1=>by rw[gsV,za,gs_len k];rfl
theorem ba_u (ho:o=gsV p l k) (hr:r=prjF (List.take j o) (samV (l.getD k []) (kN p))) (hK:BaOk p l) (hk:k<l.length) (hj:j<o.length):BaU r (o.getD j []):=by
 subst ho hr
 exact hK.2.1 k hk j (by have:=gs_len (p:=p) (l:=l) k;omega)
theorem ba_f (ho:o=gsV p l k) (hr:r=prjF (List.take j o) (samV (l.getD k []) (kN p))) (hj:o.length<=j):r=gsW p l k:=by
 rw[hr,zB hj,ho]
theorem ba_w (ho:o=gsV p l k) (hr:r=prjF (List.take j o) (samV (l.getD k []) (kN p))) (hK:BaOk p l) (hk:k<l.length) (hj:o.length<=j):List.length r<=1000000/\DotOk r r frZ/\sz (Qn.q (jF r r frZ))<=62:=by
 rw[ba_f ho hr hj];exact hK.2.2.1 k hk
theorem ba_r (ho:o=gsV p l k) (hK:BaOk p l) (hk:k=l.length) (hv:v∈o):SzL v:=by
 subst hk;rw[ho] at hv;exact hK.2.2.2 v hv
theorem ba_s (ho:o=gsV p l k) (hr:r=prjF (List.take j o) (samV (l.getD k []) (kN p))) (hj:o.length<=j):o++[r]=gsV p l (k+1):=by rw[ba_f ho hr hj,ho];rfl
theorem ba_g (ho:o=gsV p l k) (hr:r=prjF (List.take j o) (samV (l.getD k []) (kN p))) (hj:o.length<=j) (h:¬jz (Qn.q (jF r r frZ)).num=0):¬gsZ p l k:=by rw[ba_f ho hr hj] at h;exact h
theorem ba_g2 (ho:o=gsV p l k) (hr:r=prjF (List.take j o) (samV (l.getD k []) (kN p))) (hj:o.length<=j) (h:jz (Qn.q (jF r r frZ)).num=0):gsZ p l k:=by rw[ba_f ho hr hj] at h;exact h
theorem ba_i (hI:∀ i,i<k->¬gsZ p l i) (h:¬gsZ p l k):∀ i,i<k+1->¬gsZ p l i:=fun i hi=>by
 by_cases e:i=k
 ·rw[e];exact h
 exact hI i aa
theorem ba_n (hr:r=prjF (List.take j o) v) (hj:j<o.length):Zm r (exC r (o.getD j [])) (o.getD j [])=prjF (List.take (j+1) o) v:=by
 rw[List.take_succ_eq_append_getElem hj]
 unfold prjF at*
 rw[List.foldl_append,<-hr,ze,zm hj];rfl
theorem ba_q (hq:q=List.map jZ (List.take t o)) (ht:t<o.length):q++[jZ (o.getD t [])]=List.map jZ (List.take (t+1) o):=by
 rw[hq,List.take_succ_eq_append_getElem ht,qc,ze,zm ht];rfl
theorem ba_z (hI:∀ i,i<t->jh (o.getD i [])=0) (h:jh (o.getD t [])=0):∀ i,i<t+1->jh (o.getD i [])=0:=fun i hi=>by
 by_cases e:i=t
 ·rw[e];exact h
 exact hI i aa
theorem ea_all {α:Type} {F:α->Int} {z:α}:∀ (l:List α) (t:Nat),(∀ i,i<t->F (l.getD i z)=0)->jn F l=jn F (l.drop t)
 | l,0,_=>by rw[List.drop_zero]
 | [],t+1,_=>by rw[List.drop_nil]
 | a::l,t+1,h=>by
  rw[jn,if_pos (show F a=0 from h 0 aa),List.drop_succ_cons]
  exact ea_all l t fun i hi=>h (i+1) aa
theorem bl_1 (h1:qB [puE p,chkM l]≠0):DV.tup [vL eNL [],vI (qB [puE p,chkM l])]=baR p l:=by unfold baR baX;rw[if_pos h1]
theorem bl_2 (h1:¬qB [puE p,chkM l]≠0) (h2:(((kN p).length:Nat):Int)=0):DV.tup [vL eNL [],vI 7]=baR p l:=by unfold baR baX;rw[if_neg h1,if_pos h2]
theorem bl_3 (h1:¬qB [puE p,chkM l]≠0) (h2:¬(((kN p).length:Nat):Int)=0) (_:∀ i,i<k->¬gsZ p l i) (hk:k<l.length) (hz:gsZ p l k):DV.tup [vL eNL [],vI 14]=baR p l:=by
 unfold baR baX;rw[if_neg h1,if_neg h2,if_pos (List.any_eq_true.2 ⟨k,List.mem_range.2 hk,zl hz⟩)]
theorem bl_n (hI:∀ i,i<k->¬gsZ p l i) (hk:k=l.length):¬(List.range l.length).any (fun k=>decide (gsZ p l k))=true:=by
 intro h
 obtain⟨i,hi,hz⟩:=List.any_eq_true.1 h
 exact hI i (by rw[hk];exact List.mem_range.1 hi) (of_decide_eq_true hz)
theorem bl_4 (h1:¬qB [puE p,chkM l]≠0) (h2:¬(((kN p).length:Nat):Int)=0) (hI:∀ i,i<k->¬gsZ p l i) (ho:o=gsV p l k) (hk:k=l.length) (hz:∀ i,i<t->jh (o.getD i [])=0) (ht:t<o.length) (h7:jh (o.getD t [])≠0):DV.tup [vL eNL [],vI (jh (o.getD t []))]=baR p l:=by
 have he:jn jh (gsV p l l.length)=jh (o.getD t []):=by
  rw[<-hk,<-ho,ea_all o t hz,drop_at o t [] ht,jn,if_neg h7]
 unfold baR baX;rw[if_neg h1,if_neg h2,if_neg (bl_n hI hk),he,if_pos h7]
theorem bl_5 (h1:¬qB [puE p,chkM l]≠0) (h2:¬(((kN p).length:Nat):Int)=0) (hI:∀ i,i<k->¬gsZ p l i) (ho:o=gsV p l k) (hk:k=l.length) (hq:q=List.map jZ (List.take t o)) (hz:∀ i,i<t->jh (o.getD i [])=0) (ht:o.length<=t):DV.tup [vL eNL q,vI 0]=baR p l:=by
 have he:jn jh (gsV p l l.length)=0:=by
  rw[<-hk,<-ho,ea_all o t hz,zW ht];rfl
 unfold baR baX;rw[if_neg h1,if_neg h2,if_neg (bl_n hI hk),he,if_neg ao,hq,zB ht,ho,hk]
end
theorem by61:ty61.info.bytes=24:=ae
theorem in61:tab.info? 61=some ty61.info:=ae
theorem w46 (hp:qX) (p:Pu) (l:List (List Trm)) (hq:PuB p) (hl:List.length l<=1000000) (hs:∀ f∈l,List.length f<=1000000/\∀ t∈f,List.length (Trm.c t)<=18) (hz:qB [puE p,chkM l]=0->BaOk p l):CKa 46 [.pv (.agg [pI (Pu.n p),pS (bsO (Pu.a p)),pS (bsO (Pu.h p)),pL eV (Pu.v p)]),vL eYL l] (baR p l):=by
 refine cL 10 [] qf46 Z (nB Z) Z Z (kc (E Z (B.kg (enc:=eNL) Z) (C Z (w76 p hq.a (fun e=>qh (hq.az e) ah) hq.h (fun e e2=>by have:=hq.az e;have:=hq.hz e2;omega) hq.l hq.v (fun v hv e=>qh (hq.vz v hv e).1 ah)) Z Z Z (C Z (w142 l hl hs) Z Z Z (E Z (B.ja (val:=.pv (.slice (List.map eI [(puE p),(chkM l)]))) (val0:=.aref 33 0) (m0:=[(33,.arr 0 1 24 [[pI (puE p)],[pI (chkM l)]])]) (rd:=[]) ae (fun l=>Frz.arr l _ _ _ _ _) Z) (C Z (w98 [(puE p),(chkM l)] (nB Z)) Z Z Z (Cp Z Z (fun h1=>?_) (fun h1=>?_))))))))
 ·refine E Z (B.kg (enc:=eNL) Z) ?_
  refine Rt Z ?_
  exact q5 (val0:=.tup [vL eNL [],vI (qB [(puE p),(chkM l)])]) (out0:=[]) (.inr Z) ae df rfl
 refine C Z (w130 p (PuB.ok hq (ba_p ab))) Z Z Z (E Z (B.jW Z un187) (Cp Z Z (fun h2=>?_) (fun h2=>?_)))
 ·refine E Z (B.kg (enc:=eNL) Z) ?_
  refine Rt Z ?_
  exact q5 (val0:=.tup [vL eNL [],vI 7]) (out0:=[]) (.inr Z) ae df rfl
 refine E Z (B.adopt 18 1 190 Z Z) (E Z (B.jW Z un87) (l2 (fun (k:Nat) (o:List (List Qn))=>[(7,vL eC (kN p)),(8,.aref 18 k),(33,vL eYL l),(34,vI ((l.length:Nat):Int)),(35,vI ((k:Nat):Int))]) (fun k o=>[(18,.arr k 1 190 (List.map eFL o))]) (fun k o=>k<=List.length l/\o=gsV p l k/\∀ i,i<k->¬gsZ p l i) (fun k _=>List.length l-k) 0 [] Z ?_ (sb Z Z Z) ?_))
 · exact⟨zw _,rfl,fun i hi=>aa⟩
 intro k o hI0
 have hol:List.length o=k:=by rw[hI0.2.1];exact gs_len k
 have hm16:=ba_16 ab
 have hK:=hz (ba_0 ab)
 refine Cp Z Z (fun h3=>?_) (fun h3=>?_)
 ·refine E Z (B.idx (z:=[]) (i:=k) Z Z un87 sz23 (fun _=>rfl) Z ct) (C Z (w132 (kN p) (l.getD k []) (hs _ (jf aa)).1 (ba_m ab (jf aa)) (hK.1 k aa).1 (cen_l (PuB.ok hq (ba_p ab))) (hK.1 k aa).2) Z Z Z (E Z (B.lenA Z Z un202) (l2 (fun (j:Nat) (r:List Qn)=>[(7,vL eC (kN p)),(8,.aref 18 k),(11,vL eF r),(33,vL eYL l),(34,vI ((l.length:Nat):Int)),(35,vI ((k:Nat):Int)),(42,.aref 18 k),(43,vI ((o.length:Nat):Int)),(44,vI ((j:Nat):Int))]) (fun _ _=>[(18,.arr k 1 190 (List.map eFL o))]) (fun j r=>j<=List.length o/\r=prjF (List.take j o) (samV (l.getD k []) (kN p))) (fun j _=>List.length o-j) 0 (samV (l.getD k []) (kN p)) Z ?_ (sb Z Z Z) ?_)))
  · exact⟨zw _,rfl⟩
  intro j r hI1
  refine Cp Z Z (fun h4=>?_) (fun h4=>?_)
  ·refine E Z (B.idxE (n:=j) Z Z Z un202 sz190 Z ct) (E Z (B.loadE (n:=j) (z0:=[]) Z Z ag190 sz190 ct Z) (C Z (w144 r (o.getD j []) (ba_u hI0.2.1 hI1.2 hK aa aa).q (ba_u hI0.2.1 hI1.2 hK aa aa).r (ba_u hI0.2.1 hI1.2 hK aa aa).d) Z Z Z (C Z (w144 (o.getD j []) (o.getD j []) Z (ba_u hI0.2.1 hI1.2 hK aa aa).n (ba_u hI0.2.1 hI1.2 hK aa aa).e) Z Z Z (C Z (w128d (jF r (o.getD j []) frZ) (jF (o.getD j []) (o.getD j []) frZ) (ba_u hI0.2.1 hI1.2 hK aa aa).s (ba_u hI0.2.1 hI1.2 hK aa aa).z) Z Z Z (C Z (w143 r (Qn.dv (jF r (o.getD j []) frZ) (jF (o.getD j []) (o.getD j []) frZ)) (o.getD j []) (ba_u hI0.2.1 hI1.2 hK aa aa).q (ba_u hI0.2.1 hI1.2 hK aa aa).r (ba_u hI0.2.1 hI1.2 hK aa aa).l) Z Z Z (E Z (B.add Z Z bj) (pk Z (L2 (j+1) (Zm r (Qn.dv (jF r (o.getD j []) frZ) (jF (o.getD j []) (o.getD j []) frZ)) (o.getD j [])) ?_ ?_ (sb Z Z Z)))))))))
   · exact⟨aa,ba_n hI1.2 aa⟩
   · omega
  refine C Z (w144 r r Z (ba_w hI0.2.1 hI1.2 hK aa aa).1 (ba_w hI0.2.1 hI1.2 hK aa aa).2.1) Z Z Z (C Z (w145 (jF r r frZ) (ba_w hI0.2.1 hI1.2 hK aa aa).2.2) Z Z Z (Cp Z Z (fun h5=>?_) (fun h5=>?_)))
  ·refine E Z (B.kg (enc:=eNL) Z) ?_
   refine Rt Z ?_
   exact q5 (val0:=.tup [vL eNL [],vI 14]) (out0:=[]) (.inr Z) ae df rfl
  refine E Z (B.ja (val:=.pv (.slice (List.map eFL [r]))) (val0:=.aref 76 0) (m0:=[(76,.arr 0 1 190 [[pL eF r]])]) (rd:=[]) ae (fun l=>Frz.arr l _ _ _ _ _) Z) (E Z (B.append (enc:=eFL) (l:=o) (r:=[r]) Z Z Z un202 in190 Z (fun _=>rfl) by190 ct) (E Z (B.add Z Z bj) (pk Z (L2 (k+1) (o++[r]) ?_ ?_ (sb Z Z Z)))))
  · exact⟨aa,ba_s hI0.2.1 hI1.2 aa,ba_i hI0.2.2 (ba_g hI0.2.1 hI1.2 aa ab)⟩
  · omega
 refine Fz 21 8 Z Z Z (E Z (B.adopt 24 1 61 Z Z) (E Z (B.jW Z un202) (l2 (fun (t:Nat) (q:List (List (List UInt8)))=>[(14,.aref 24 t),(69,vL eFL o),(70,vI ((o.length:Nat):Int)),(71,vI ((t:Nat):Int))]) (fun t q=>[(24,.arr t 1 61 (List.map eNL q))]) (fun t q=>t<=List.length o/\q=List.map jZ (List.take t o)/\∀ i,i<t->jh (o.getD i [])=0) (fun t _=>List.length o-t) 0 [] Z ?_ (sb Z Z Z) ?_)))
 · exact⟨zw _,rfl,fun i hi=>aa⟩
 intro t q hI2
 have hql:List.length q=t:=by rw[hI2.2.1,zJ,zn];omega
 refine Cp Z Z (fun h6=>?_) (fun h6=>?_)
 ·refine E Z (B.idx (z:=[]) (i:=t) Z Z un202 sz190 (fun _=>rfl) Z ct) (C Z (w131 hp (o.getD t []) (ba_r hI0.2.1 hK aa (jf aa)).1 (ba_r hI0.2.1 hK aa (jf aa)).2) Z Z Z (Cp Z Z (fun h7=>?_) (fun h7=>?_)))
  ·refine E Z (B.kg (enc:=eNL) Z) ?_
   refine Rt Z ?_
   exact q5 (val0:=.tup [vL eNL [],vI (jh (o.getD t []))]) (out0:=[]) (.inr Z) ae df rfl
  refine E Z (B.ja (val:=.pv (.slice (List.map eNL [(jZ (o.getD t []))]))) (val0:=.aref 95 0) (m0:=[(95,.arr 0 1 61 [[pL eN (jZ (o.getD t []))]])]) (rd:=[]) ae (fun l=>Frz.arr l _ _ _ _ _) Z) (E Z (B.append (enc:=eNL) (l:=q) (r:=[(jZ (o.getD t []))]) Z Z Z un84 in61 Z (fun _=>rfl) by61 ct) (E Z (B.add Z Z bj) (pk Z (L2 (t+1) (q++[(jZ (o.getD t []))]) ?_ ?_ (sb Z Z Z)))))
  · exact⟨aa,ba_q hI2.2.1 aa,ba_z hI2.2.2 (zi.1 ab)⟩
  · omega
 refine Fz 30 14 Z Z Z ?_
 refine Rt Z ?_
 exact q5 (val0:=.tup [vL eNL q,vI 0]) (out0:=[]) (.inr Z) ae df rfl
instance:DecidableEq Trm:=fun x y=>decidable_of_iff (Trm.c x=Trm.c y/\Trm.i x=Trm.i y/\Trm.j x=Trm.j y) (by
 constructor
 ·rintro⟨h1,h2,h3⟩
  obtain⟨c,i,j⟩:=x
  obtain⟨c',i',j'⟩:=y
  simp only at h1 h2 h3
  subst h1 h2 h3
  rfl
 rintro rfl;exact⟨rfl,rfl,rfl⟩)
theorem fq83:flatEq tab 83=some [.string,.int (.i64),.int (.i64)]:=ae
section
variable {α:Type} [DecidableEq α] {a b:List α} {z:α} {k:Nat} {x y:Trm}
theorem sr_1 (h:a.length≠b.length):false=decide (a=b):=(zk fun e=>h (by rw[e])).symm
theorem sr_2 (h:List.getD a k z≠List.getD b k z):false=decide (a=b):=(zk fun e=>h (by rw[e])).symm
theorem sr_3 (hl:a.length=b.length) (hI:∀ i,i<k->List.getD a i z=List.getD b i z) (hk:a.length<=k):true=decide (a=b):=by
 refine (zl ?_).symm
 refine List.ext_getElem hl fun i h1 h2=>?_
 have:=hI i aa
 simpa [ze,zm h1,zm h2] using this
theorem sr_n (hI:∀ i,i<k->List.getD a i z=List.getD b i z) (h:List.getD a k z=List.getD b k z):∀ i,i<k+1->List.getD a i z=List.getD b i z:=fun i hi=>by
 by_cases e:i=k
 ·rw[e];exact h
 exact hI i aa
theorem sr_t (h:(!(decide (Trm.c x=Trm.c y)&&(decide (Trm.i x=Trm.i y)&&decide (Trm.j x=Trm.j y))))=false):x=y:=by
 simp only[Bool.not_eq_false',zj,zf] at h
 obtain⟨h1,h2,h3⟩:=h
 obtain⟨c,i,j⟩:=x
 obtain⟨c',i',j'⟩:=y
 simp only at h1 h2 h3
 subst h1 h2 h3
 rfl
theorem sr_f (h:(!(decide (Trm.c x=Trm.c y)&&(decide (Trm.i x=Trm.i y)&&decide (Trm.j x=Trm.j y))))=true):x≠y:=by
 intro e
 subst e
 simp at h
end
theorem ow_s {f o:List Trm} {k:Nat} (ho:o=List.take k f) (hk:k<f.length):o++[List.getD f k trZ]=List.take (k+1) f:=by
 rw[ho,List.take_succ_eq_append_getElem hk,ze,zm hk];rfl
theorem ag83:aggT tab 83=some true:=ae
theorem by83:ty83.info.bytes=32:=ae
theorem in83:tab.info? 83=some ty83.info:=ae
theorem sz83:szT tab 83=some 3:=ae
theorem un28:tab.underlying 28=some (.slice 83):=ae
theorem w58 (f:List Trm) (hl:List.length f<=1000000):CKa 58 [vL eY f] (vL eY f):=by
 refine cL 10 [] qf58 Z (nB Z) Z Z (kc (E Z (B.kg (enc:=eY) Z) (E Z (B.adopt 13 3 83 Z Z) (E Z (B.jW Z un23) (l2 (fun (k:Nat) (o:List Trm)=>[(3,.aref 13 k),(6,vL eY f),(7,vI ((f.length:Nat):Int)),(8,vI ((k:Nat):Int))]) (fun k o=>[(13,.arr k 3 83 (List.map eY o))]) (fun k o=>k<=List.length f/\o=List.take k f) (fun k _=>List.length f-k) 0 [] Z ?_ (sb Z Z Z) ?_)))))
 · exact⟨zw _,rfl⟩
 intro k o hI0
 have hol:List.length o=k:=by rw[hI0.2,zn];omega
 refine Cp Z Z (fun h1=>?_) (fun h1=>?_)
 ·refine E Z (B.idx (z:=trZ) (i:=k) Z Z un23 sz111 (fun _=>rfl) Z ct) (E Z (B.ja (val:=.pv (.slice (List.map eY [(f.getD k trZ)]))) (val0:=.aref 24 0) (m0:=[(24,.arr 0 3 83 [[pS (bsO (Trm.c (f.getD k trZ))),pI (Trm.i (f.getD k trZ)),pI (Trm.j (f.getD k trZ))]])]) (rd:=[]) ae (fun l=>Frz.arr l _ _ _ _ _) Z) (E Z (B.append (enc:=eY) (l:=o) (r:=[(f.getD k trZ)]) Z Z Z un28 in83 Z (fun _=>rfl) by83 ct) (E Z (B.add Z Z bj) (pk Z (L2 (k+1) (o++[(f.getD k trZ)]) ?_ ?_ (sb Z Z Z))))))
  · exact⟨aa,ow_s hI0.2 aa⟩
  · omega
 refine Fz 7 3 Z Z Z ?_
 refine Rt Z ?_
 exact q5 (val0:=vL eY o) (out0:=[]) (.inr Z) ae (by rw[hI0.2,zB aa]) rfl
theorem w57 (a b:List (List UInt8)) (hla:List.length a<=1000000) (hlb:List.length b<=1000000):CKa 57 [vL eN a,vL eN b] (vB (decide (a=b))):=by
 refine cG qf57 Z (nB Z) Z (E Z (B.jW Z un61) (E Z (B.jW Z un61) (Cp Z Z (fun h1=>?_) (fun h1=>?_))))
 ·exact Rt Z (leaf (val0:=vB false) ae (lb dR))
 refine l1 (fun (k:Nat)=>[(0,vL eN a),(1,vL eN b),(5,vI ((k:Nat):Int))]) (fun _=>[]) (fun k=>k<=List.length a/\List.length a=List.length b/\∀ i,i<k->List.getD a i []=List.getD b i []) (fun k=>List.length a-k) 0 Z ?_ (sb Z Z Z) ?_
 · exact⟨zw _,aa,fun i hi=>aa⟩
 intro k hI0
 refine E Z (B.jW Z un61) (Cp Z Z (fun h2=>?_) (fun h2=>?_))
 ·refine E Z (B.idx (z:=[]) (i:=k) Z Z un61 sz33 (fun _=>rfl) Z aa) (E Z (B.idx (z:=[]) (i:=k) Z Z un61 sz33 (fun _=>rfl) Z aa) (E Z (B.sneB (a:=(a.getD k [])) (b:=(b.getD k [])) Z Z) (Dr Z ae (Cp Z Z (fun h3=>?_) (fun h3=>?_)))))
  ·exact Rt Z (leaf (val0:=vB false) ae (lb dR))
  refine E Z (B.add Z Z bj) (pk Z (L1 (k+1) ?_ ?_ (sb Z Z Z)))
  · exact⟨aa,hI0.2.1,sr_n hI0.2.2 dh⟩
  · omega
 exact Rt Z (leaf (val0:=vB true) ae (lb dR))
theorem w86 (a b:List Trm) (hla:List.length a<=1000000) (hlb:List.length b<=1000000):CKa 86 [vL eY a,vL eY b] (vB (decide (a=b))):=by
 refine cG qf86 Z (nB Z) Z (E Z (B.jW Z un28) (E Z (B.jW Z un28) (Cp Z Z (fun h1=>?_) (fun h1=>?_))))
 ·exact Rt Z (leaf (val0:=vB false) ae (lb dR))
 refine l1 (fun (k:Nat)=>[(0,vL eY a),(1,vL eY b),(5,vI ((k:Nat):Int))]) (fun _=>[]) (fun k=>k<=List.length a/\List.length a=List.length b/\∀ i,i<k->List.getD a i trZ=List.getD b i trZ) (fun k=>List.length a-k) 0 Z ?_ (sb Z Z Z) ?_
 · exact⟨zw _,aa,fun i hi=>aa⟩
 intro k hI0
 refine E Z (B.jW Z un28) (Cp Z Z (fun h2=>?_) (fun h2=>?_))
 ·refine E Z (B.idx (z:=trZ) (i:=k) Z Z un28 sz83 (fun _=>rfl) Z aa) (E Z (B.idx (z:=trZ) (i:=k) Z Z un28 sz83 (fun _=>rfl) Z aa) (E Z (B.stqN Z Z fq83 (eqv_cons eqv_s (eqv_cons eqv_i (eqv_last eqv_i)))) (Dr Z ae (Cb Z Z (fun h3=>?_) (fun h3=>?_)))))
  ·exact Rt Z (leaf (val0:=vB false) ae (lb dR))
  refine E Z (B.add Z Z bj) (pk Z (L1 (k+1) ?_ ?_ (sb Z Z Z)))
  · exact⟨aa,hI0.2.1,sr_n hI0.2.2 dh⟩
  · omega
 exact Rt Z (leaf (val0:=vB true) ae (lb dR))
theorem w111 (n:Int) (hn:n<=1000000):CKa 111 [vI n] (vL eN (List.replicate (Int.toNat n) [48])):=by
 refine cL 10 [] qf111 Z (nB Z) Z Z (kc (E Z (B.kg (enc:=eN) Z) (E Z (B.adopt 13 1 33 Z Z) (l2 (fun (k:Nat) (o:List (List UInt8))=>[(0,vI n),(3,.aref 13 k),(4,vI ((k:Nat):Int))]) (fun k o=>[(13,.arr k 1 33 (List.map eN o))]) (fun k o=>k<=Int.toNat n/\o=List.replicate k [48]) (fun k _=>Int.toNat n-k) 0 [] Z ?_ (sb Z Z Z) ?_))))
 · exact⟨zw _,rfl⟩
 intro k o hI0
 have hol:List.length o=k:=by rw[hI0.2,qd]
 refine Cp Z Z (fun h1=>?_) (fun h1=>?_)
 ·refine E Z (B.ja (val:=.pv (.slice (List.map eN [[48]]))) (val0:=.aref 21 0) (m0:=[(21,.arr 0 1 33 [[pS (bsO [48])]])]) (rd:=[]) ae (fun l=>Frz.arr l _ _ _ _ _) Z) (E Z (B.append (enc:=eN) (l:=o) (r:=[[48]]) Z Z Z un61 in33 Z (fun _=>rfl) by33 ct) (E Z (B.add Z Z bj) (pk Z (L2 (k+1) (o++[[48]]) ?_ ?_ (sb Z Z Z)))))
  · exact⟨aa,by rw[hI0.2,List.replicate_succ']⟩
  · omega
 refine Fz 6 3 Z Z Z ?_
 refine Rt Z ?_
 exact q5 (val0:=vL eN o) (out0:=[]) (.inr Z) ae (by rw[hI0.2,show k=Int.toNat n by omega]) rfl
theorem w110:CKa 110 [] (.pv (.agg [pI 4,pS (bsO [49]),pS (bsO [49,47,50]),pL eV []])):=by
 refine cG qf110 Z (nB Z) Z (E Z (B.ja Z (fun l=>Frz.boxN l Z) Z) (E Z (B.ja (val:=.pv (.agg [pI 4,pS (bsO [49]),pS (bsO [49,47,50]),pL eV []])) Z (fun l=>Frz.aggN l Z) Z) ?_))
 refine Rt Z ?_
 exact leaf (val0:=.pv (.agg [pI 4,pS (bsO [49]),pS (bsO [49,47,50]),pL eV []])) ae rfl
end Go.Lens.Tb
end
section
namespace Go.Lens
variable [Lz]
section
variable {P:Program} {Y:Tab} [qM P Y] {nb:Nat} {s:St} {dst:Option Tmp} {ty:TypeId} {pos:String} {af:Array Edge} {gd:Option (Nat×Bool)} {t:TypeId} {x y:Operand}
theorem B.arrP {e:TypeId} {c0 c1:PV} (ht:Y.underlying t=some (.array 2 e)) (hx:ev1 s x=.pv (.slice [[c0],[c1]])) :
  Body P Y nb s ⟨dst,.sliceToArrayPointer t x,ty,pos,af,gd⟩ (.pv (.box [c0,c1])) [] []:=by
 refine .inr (km.of fun σ G a w hv _ I=>?_)
 have hX:=hv x aY
 rw[hx] at hX
 simp only[qx,qN] at hX
 obtain⟨p,cap,hX,hl,H⟩:=hX
 rcases H with H|⟨b,off,esz,rfl,H⟩
 ·cases H
 simp only[qT,qZ,zb,zd] at H
 obtain⟨rfl,⟨h0,_⟩,_,⟨h1,_⟩,_⟩:=H
 have hrun:(Instr.arrayAt t (.slice (some ⟨b,off,none⟩) 2 cap)).run P w=.ok (.pointer (some ⟨b,off,none⟩)) w:=by
  simp only[Instr.arrayAt,qt,qI ht,qr,Nat.lt_irrefl,qq,qu]
 refine⟨.pointer (some ⟨b,off,none⟩),w,G,.inl ?_,qH I.ctxS ?_ (fun k hk=>by simp[DV.refs] at hk)⟩
 ·simp only[execOp,hX,qt]
  first|rw[hrun]|(simp only[zb,zd];rw[hrun])
  simp only[qr,qu]
 simp only[qx,qN,qZ]
 exact⟨b,off,rfl,h0,h1,trivial⟩
theorem run_eqA2 {it:TypeId} {a0 a1 b0 b1:Value} {r0 r1:Bool} (hk:Y.underlying t=some (.array 2 it)) (ha:aggT Y it=some false) (hz:szT Y it=some 1) (h0:∀ n w,(Op.equalIn (n+1) it a0 b0).run P w=.ok r0 w) (h1:∀ n w,(Op.equalIn (n+1) it a1 b1).run P w=.ok r1 w) (w:World) :
  (Op.equalIn 10000 t (.agg #[a0,a1]) (.agg #[b0,b1])).run P w=.ok (r0&&r1) w:=by
 have p0:∀ (a b:Value) (w:World),(part it #[a,b] 0).run P w=.ok a w:=fun a b w=>by simp[part,qt,jS ha]
 have p1:∀ (a b:Value) (w:World),(part it #[a,b] 1).run P w=.ok b w:=fun a b w=>by simp[part,qt,jS ha]
 have key:∀ n:Nat,(Op.equalIn (n+1+1) t (.agg #[a0,a1]) (.agg #[b0,b1])).run P w=.ok (r0&&r1) w:=fun n=>by
  rw[Op.equalIn]
  simp only[qt,qI hk,qr,qV hz]
  cases r0<;>cases r1<;>simp[Std.Legacy.Range.forIn_eq_forIn_range',Std.Legacy.Range.size,List.range',p0,p1,h0,h1]
 exact key 9998
theorem B.eqA2 {it u:TypeId} {a0 a1 b0 b1:Value} {r0 r1:Bool} (hb:Y.eqBad t=false) (hk:Y.underlying t=some (.array 2 it)) (ha:aggT Y it=some false) (hz:szT Y it=some 1) (h0:∀ n w,(Op.equalIn (n+1) it a0 b0).run P w=.ok r0 w) (h1:∀ n w,(Op.equalIn (n+1) it a1 b1).run P w=.ok r1 w)
  (hx:ev1 s x=.pv (.agg [.lit a0,.lit a1])) (hy:ev1 s y=.pv (.agg [.lit b0,.lit b1])) (op:BinOp) (ho:op=.eql\/op=.neq) :
  Body P Y nb s ⟨dst,.binOp op t x y u,ty,pos,af,gd⟩ (lit (.bool (if op=.eql then r0&&r1 else !(r0&&r1)))) [] []:=by
 refine .inr (km.of fun σ G a w hv _ I=>?_)
 have hX:=hv x aY
 have hY:=hv y aY
 rw[hx] at hX;rw[hy] at hY
 simp only[qx,qN,qy] at hX hY
 obtain⟨vx,hX,_,v1,l1,e1,⟨rfl,_⟩,v2,l2,e2,⟨rfl,_⟩,e3⟩:=hX
 obtain⟨vy,hY,_,u1,m1,f1,⟨rfl,_⟩,u2,m2,f2,⟨rfl,_⟩,f3⟩:=hY
 subst e3;subst e2;subst f3;subst f2
 have ex:vx= #[v1,v2]:=by rw[<-Array.toArray_toList (xs:=vx),e1]
 have ey:vy= #[u1,u2]:=by rw[<-Array.toArray_toList (xs:=vy),f1]
 subst ex;subst ey
 have hst:=qM.eqs P hb
 simp only[Bool.or_eq_false_iff] at hst
 have key:=run_eqA2 (P:=P) hk ha hz h0 h1 w
 refine⟨.bool (if op=.eql then r0&&r1 else !(r0&&r1)),w,G,.inl ?_,qH I.ctxS (qL Z) (fun k hk=>by simp[lit,DV.refs] at hk)⟩
 rcases ho with rfl|rfl
 ·simp only[execOp,hX,hY,qt,run_eqGuard_agg w _ t x y _ _ hst.2,qr,run_eql_struct,key,qp]
  rfl
 simp only[execOp,hX,hY,qt,run_eqGuard_agg w _ t x y _ _ hst.2,qr,run_neq_struct,key]
 rfl
theorem eqI_run {it:TypeId} (hi:Y.underlying it=some (.int .i64)) (a b:Int) (n:Nat) (w:World):(Op.equalIn (n+1) it (.int .i64 a) (.int .i64 b)).run P w=.ok (a==b) w:=by rw[Op.equalIn];simp[qI hi]
theorem eqS_run {it:TypeId} (hi:Y.underlying it=some .string) (a b:ByteArray) (n:Nat) (w:World):(Op.equalIn (n+1) it (.string a) (.string b)).run P w=.ok (a==b) w:=by rw[Op.equalIn];simp[qI hi]
theorem ba_self (a:ByteArray):(a==a)=true:=by
 cases a with
 | mk d=>exact (beq_self_eq_true d:(d==d)=true)
theorem B.neI2 {it u:TypeId} {a b:Int} (hb:Y.eqBad t=false) (hk:Y.underlying t=some (.array 2 it)) (ha:aggT Y it=some false) (hz:szT Y it=some 1) (hi:Y.underlying it=some (.int .i64)) (hx:ev1 s x=.pv (.agg [.lit (.int .i64 a),.lit (.int .i64 b)])) (hy:ev1 s y=.pv (.agg [.lit (.int .i64 a),.lit (.int .i64 b)])) :
  Body P Y nb s ⟨dst,.binOp .neq t x y u,ty,pos,af,gd⟩ (lit (.bool false)) [] []:=
 B.eqA2 (r0:=true) (r1:=true) hb hk ha hz (fun n w=>by rw[eqI_run hi];simp) (fun n w=>by rw[eqI_run hi];simp) hx hy .neq (.inr rfl)
theorem B.eqS2 {it u:TypeId} {a b:ByteArray} (hb:Y.eqBad t=false) (hk:Y.underlying t=some (.array 2 it)) (ha:aggT Y it=some false) (hz:szT Y it=some 1) (hi:Y.underlying it=some .string) (hx:ev1 s x=.pv (.agg [.lit (.string a),.lit (.string b)])) (hy:ev1 s y=.pv (.agg [.lit (.string a),.lit (.string b)])) :
  Body P Y nb s ⟨dst,.binOp .eql t x y u,ty,pos,af,gd⟩ (lit (.bool true)) [] []:=
 B.eqA2 (r0:=true) (r1:=true) hb hk ha hz (fun n w=>by rw[eqS_run hi,ba_self]) (fun n w=>by rw[eqS_run hi,ba_self]) hx hy .eql (.inl rfl)
theorem qD.frL {f:FuncId} {ds:List DV} {val:DV} {l L out:List (Nat×MO)} (H:qD P f ds (qw l) val out) (hsub:SubL L l) (hcl:jm l=true) (hnew:out.all (fun p=>j8 l p.1||!j8 L p.1)=true):qD P f ds (qw L) val out:=
 H.frame (fun _ _ e=>(hsub.look e).1) (fun k o h e hh=>jP hcl k o e h hh) (fun h hh e=>allHas hnew h hh e)
end
end Go.Lens
end
section
namespace Go.Lens.Tb
open Go.Proofs Go.Lens.Un
variable [Lz] [Dn]
set_option maxRecDepth 100000
attribute [local irreducible] TK PK T RG EfR Body CG
theorem sz_zD {q:Rat} {D:Nat} {z:Int} (h:q*(D:Rat)=(z:Rat)) (h0:0<D) (hD:D<=1073741824) (hz:z.natAbs<=1073741824):sz q<=31:=
 sz_of (b:=((D:Nat):Int)) (a:=z) aa h (jb aa) (jb aa)
abbrev Slo:=Nat×Qn×Qn
abbrev jI (q:Slo):Nat:=Prod.fst q
abbrev slA (q:Slo):Qn:=Prod.fst (Prod.snd q)
abbrev slB (q:Slo):Qn:=Prod.snd (Prod.snd q)
def slZ:Slo:=(0,frZ,frZ)
def sl0:Nat->Qn->Qn->Qn
 | 0,s,_=>s
 | _+1,s,v=>Qn.add s v
def sl1:Nat->Qn->Qn->Qn
 | 0,s,_=>s
 | 1,s,_=>s
 | _+2,s,v=>Qn.add s v
def slO (k:KI) (s c r:Int):Bool:=((decide (c<Prod.fst k)||decide (Prod.fst k+s<=c))||decide (r<Prod.snd k))||decide (Prod.snd k+s<=r)
def slT (p:Pu) (m1 m2:List (KI×Qn)) (P1 P2:PL) (c r:Int) (q:Slo):Slo:=(Prod.fst q+1,Qn.add (slA q) (valM m1 P1 (jc (Pu.n p) c) (jc (Pu.n p) r)),Qn.add (slB q) (valM m2 P2 (jc (Pu.n p) c) (jc (Pu.n p) r)))
def slG (p:Pu) (k:KI) (s:Int) (m1 m2:List (KI×Qn)) (P1 P2:PL) (q:Slo) (a:KI):Slo:=if slO k s (Prod.fst a) (Prod.snd a) then q else slT p m1 m2 P1 P2 (Prod.fst a) (Prod.snd a) q
def slF (p:Pu) (k:KI) (s:Int) (m1 m2:List (KI×Qn)) (P1 P2:PL) (l:List KI):Slo:=l.foldl (slG p k s m1 m2 P1 P2) slZ
def slQ (p:Pu) (k:KI) (s:Int) (m1 m2:List (KI×Qn)) (P1 P2:PL):Slo:=slF p k s m1 m2 P1 P2 (kQ p)
def SvOk (P:PL) (x y:Qn):Prop:=EvOk P x y/\(evR P x.q y.q (q9 P) 0*((4096:Nat):Rat)).den=1/\(evR P x.q y.q (q9 P) 0*((4096:Nat):Rat)).num.natAbs<=1000000
def ZB (q:Rat) (n:Nat):Prop:=∃ z:Int,q*((4096:Nat):Rat)=(z:Rat)/\z.natAbs<=1000000*n
theorem ZB.add {p q:Rat} {n:Nat} (h:ZB p n) (g:ZB q 1):ZB (p+q) (n+1):=by
 obtain⟨z,e,hz⟩:=h
 obtain⟨y,f,hy⟩:=g
 exact⟨z+y,by rw[Rat.add_mul,e,f,Rat.intCast_add],aa⟩
theorem ZB.sz {q:Rat} {n:Nat} (h:ZB q n) (hn:n<=256):Un.sz q<=31:=by
 obtain⟨z,e,hz⟩:=h
 exact sz_zD e ah ah aa
theorem ZB.zero:ZB frZ.q 0:=⟨0,by rw[show frZ.q=0 from rfl,Rat.zero_mul];rfl,ah⟩
def SvA (p:Pu) (k:KI) (s:Int) (P1 P2:PL):Prop:=∀ c r:Int,0<=c->c<Pu.n p->0<=r->r<Pu.n p->slO k s c r=false->SvOk P1 (jc (Pu.n p) c) (jc (Pu.n p) r)/\SvOk P2 (jc (Pu.n p) c) (jc (Pu.n p) r)
structure SlS (q:Slo):Prop where
 n:jI q<=256
 ha:ZB (Qn.q (slA q)) (jI q)
 hb:ZB (Qn.q (slB q)) (jI q)
section
variable {p:Pu} {k:KI} {s:Int} {m m1 m2:List (KI×Qn)} {P P1 P2:PL} {q u:Slo} {x y:Qn} {i j:Nat}
theorem SvOk.ev (h:SvOk P x y):EvOk P x y:=h.1
theorem SvOk.z (h:SvOk P x y) (hm:KP P m):ZB (valM m P x y).q 1:=by
 refine⟨(evR P x.q y.q (q9 P) 0*((4096:Nat):Rat)).num,?_,h.2.2⟩
 unfold valM
 rw[evS_q hm _ _ fun k hk=>hk]
 exact Rat.ext Z h.2.1
theorem SlS.a (h:SlS q) (hm:KP P m) (v:SvOk P x y):sz (Qn.q (slA q))+sz (Qn.q (valM m P x y))<=62:=by
 have:=(v.z hm).sz ah;have:=h.ha.sz h.n;omega
theorem SlS.b (h:SlS q) (hm:KP P m) (v:SvOk P x y):sz (Qn.q (slB q))+sz (Qn.q (valM m P x y))<=62:=by
 have:=(v.z hm).sz ah;have:=h.hb.sz h.n;omega
theorem sl_t (h:hasB p ((j:Nat):Int) ((i:Nat):Int)=true) (ho:slO k s ((j:Nat):Int) ((i:Nat):Int)=false) (hu:u=slF p k s m1 m2 P1 P2 (celT p i j)):slT p m1 m2 P1 P2 ((j:Nat):Int) ((i:Nat):Int) u=slF p k s m1 m2 P1 P2 (celT p i (j+1)):=by
 rw[hu,<-cel_t h rfl];unfold slF;rw[List.foldl_append];simp[slG,ho]
theorem sl_o (h:hasB p ((j:Nat):Int) ((i:Nat):Int)=true) (ho:slO k s ((j:Nat):Int) ((i:Nat):Int)=true) (hu:u=slF p k s m1 m2 P1 P2 (celT p i j)):u=slF p k s m1 m2 P1 P2 (celT p i (j+1)):=by
 rw[hu,<-cel_t h rfl];unfold slF;rw[List.foldl_append];simp[slG,ho]
theorem sl_f (h:hasB p ((j:Nat):Int) ((i:Nat):Int)=false) (hu:u=slF p k s m1 m2 P1 P2 (celT p i j)):u=slF p k s m1 m2 P1 P2 (celT p i (j+1)):=by
 rw[hu,<-cel_f h rfl]
theorem slnn (hj:j=Int.toNat (Pu.n p)) (hu:u=slF p k s m1 m2 P1 P2 (celT p i j)):u=slF p k s m1 m2 P1 P2 (celT p (i+1) 0):=by
 rw[hu,<-cel_n hj rfl]
theorem cel_in (hi:i<=Int.toNat (Pu.n p)) (hj:j<=Int.toNat (Pu.n p)) (h:j=0\/i<Int.toNat (Pu.n p)):∀ a∈celT p i j,(0<=a.1/\a.1<Pu.n p)/\0<=a.2/\a.2<Pu.n p:=by
 have row:∀ c r,c<=Int.toNat (Pu.n p)->(c=0\/r<Int.toNat (Pu.n p))->∀ a∈rowT p c r,(0<=a.1/\a.1<Pu.n p)/\0<=a.2/\a.2<Pu.n p:=by
  intro c r hc hr a ha
  unfold rowT at ha
  obtain⟨b,hb,rfl⟩:=zF.1 ha
  have h1:=List.mem_range.1 (List.mem_filter.1 hb).1
  dsimp only
  refine⟨⟨aa,aa⟩,aa,aa⟩
 intro a ha
 unfold celT at ha
 rcases zI.1 ha with ha|ha
 ·obtain⟨r,hr,ha⟩:=List.mem_flatMap.1 ha
  have:=List.mem_range.1 hr
  exact row _ r (zC _) (.inr aa) a ha
 exact row _ i hj h a ha
theorem sl_W (g1:KP P1 m1) (g2:KP P2 m2) (hv:SvA p k s P1 P2):∀ (l:List KI) (n:Nat) (q:Slo),(∀ a∈l,(0<=a.1/\a.1<Pu.n p)/\0<=a.2/\a.2<Pu.n p)->jI q<=n->ZB (Qn.q (slA q)) (jI q)->ZB (Qn.q (slB q)) (jI q)->
  jI (l.foldl (slG p k s m1 m2 P1 P2) q)<=n+l.length/\ZB (Qn.q (slA (l.foldl (slG p k s m1 m2 P1 P2) q))) (jI (l.foldl (slG p k s m1 m2 P1 P2) q))/\ZB (Qn.q (slB (l.foldl (slG p k s m1 m2 P1 P2) q))) (jI (l.foldl (slG p k s m1 m2 P1 P2) q))
 | [],n,q,_,h1,h2,h3=>⟨h1,h2,h3⟩
 | a::l,n,q,h,h1,h2,h3=>by
  have ih:=sl_W g1 g2 hv l (n+1) (slG p k s m1 m2 P1 P2 q a) fun b hb=>h b (zO _ hb)
  rw[List.foldl_cons,zb,show n+(l.length+1)=n+1+l.length by omega]
  have ha:=h a ql
  cases ho:slO k s (Prod.fst a) (Prod.snd a)
  ·have e:slG p k s m1 m2 P1 P2 q a=slT p m1 m2 P1 P2 (Prod.fst a) (Prod.snd a) q:=by unfold slG;rw[ho];rfl
   rw[e] at ih ⊢
   have v:=hv _ _ ha.1.1 ha.1.2 ha.2.1 ha.2.2 ho
   exact ih (by show Prod.fst q+1<=n+1;exact Nat.succ_le_succ h1) (h2.add (v.1.z g1)) (h3.add (v.2.z g2))
  have e:slG p k s m1 m2 P1 P2 q a=q:=by unfold slG;rw[ho];rfl
  rw[e] at ih ⊢
  exact ih (Nat.le_succ_of_le h1) h2 h3
theorem sl_S (g1:KP P1 m1) (g2:KP P2 m2) (hv:SvA p k s P1 P2) (hP:PuOk p) (hi:i<=Int.toNat (Pu.n p)) (hj:j<=Int.toNat (Pu.n p)) (h:j=0\/i<Int.toNat (Pu.n p)):SlS (slF p k s m1 m2 P1 P2 (celT p i j)):=by
 have h1:=sl_W g1 g2 hv (celT p i j) 0 slZ (cel_in hi hj h) (zC _) ZB.zero ZB.zero
 have h2:=cel_l (p:=p) (j:=j) i
 have h3:=pk_n hP
 have h4:i*Int.toNat (Pu.n p)+j<=256:=by
  rcases h with h|h
  ·have:i*Int.toNat (Pu.n p)<=16*16:=Nat.mul_le_mul aa aa
   omega
  have:i*Int.toNat (Pu.n p)<=15*16:=Nat.mul_le_mul aa aa
  omega
 exact⟨by unfold slF;omega,h1.2.1,h1.2.2⟩
theorem sl_s (g1:KP P1 m1) (g2:KP P2 m2) (hv:SvA p k s P1 P2) (hP:PuOk p) (hi:i<Int.toNat (Pu.n p)) (hj:j<=Int.toNat (Pu.n p)) (hu:u=slF p k s m1 m2 P1 P2 (celT p i j)):SlS u:=by
 rw[hu];exact sl_S g1 g2 hv hP (Nat.le_of_lt hi) hj (.inr hi)
end
theorem arrL {a b:List UInt8} {l:List (List UInt8)} (h:l=[a,b]):vL eN l=.pv (.slice [[pS (bsO a)],[pS (bsO b)]]):=by rw[h];rfl
theorem resT_2 {a b:Qn} (h:¬jh [a,b]≠0):jZ [a,b]=[txt (Qn.q a),txt (Qn.q b)]:=by
 unfold jh at h
 unfold jZ
 cases e:[a,b].any (fun a=>je (Qn.q a))
 ·rfl
 rw[e] at h;exact absurd ah h
def slV (P:PL) (n:Int) (k:KI) (s:Int) (t:Rat) (a:KI):Rat:=if slO k s (Prod.fst a) (Prod.snd a) then t else t+evP P (Qn.q (jc n (Prod.fst a))) (Qn.q (jc n (Prod.snd a)))
def slI (k:KI) (s:Int) (t:Nat) (a:KI):Nat:=if slO k s (Prod.fst a) (Prod.snd a) then t else t+1
def slC (p:Pu) (k:KI) (s:Int):Nat:=(kQ p).foldl (slI k s) 0
def slY (P:PL) (p:Pu) (k:KI) (s:Int):Rat:=(kQ p).foldl (slV P (Pu.n p) k s) 0 / ((slC p k s:Nat):Rat)
def slE (p:Pu) (f:List Trm) (k:KI) (s:Int):Int:=if smE1 p f≠0 then smE1 p f else if sqE p k s≠0 then sqE p k s else if slC p k s=0 then 7 else bif je (slY (j1 0 (plF f)) p k s)||je (slY (j1 1 (plF f)) p k s) then 4 else 0
def slX (p:Pu) (f:List Trm) (k:KI) (s:Int):List UInt8×List UInt8:=if slE p f k s≠0 then ([],[]) else (txt (slY (j1 0 (plF f)) p k s),txt (slY (j1 1 (plF f)) p k s))
abbrev slW (p:Pu) (f:List Trm) (k:KI) (s:Int) (m1 m2:List (KI×Qn)):Slo:=slQ p k s m1 m2 (j1 0 (plF f)) (j1 1 (plF f))
abbrev SlHz (p:Pu) (f:List Trm) (k:KI) (s:Int):Prop:=qQ f=0->OkP (plF f)/\DrOk (plF f)/\OkP (j1 0 (plF f))/\OkP (j1 1 (plF f))/\SvA p k s (j1 0 (plF f)) (j1 1 (plF f))
section
variable {p:Pu} {k:KI} {s:Int} {m1 m2:List (KI×Qn)} {P1 P2:PL} {f:List Trm}
theorem sl_q (g1:KP P1 m1) (g2:KP P2 m2) (o1:OkP P1) (o2:OkP P2):∀ (l:List KI) (q:Slo),Qn.q (slA (l.foldl (slG p k s m1 m2 P1 P2) q))=l.foldl (slV P1 (Pu.n p) k s) (Qn.q (slA q))/\Qn.q (slB (l.foldl (slG p k s m1 m2 P1 P2) q))=l.foldl (slV P2 (Pu.n p) k s) (Qn.q (slB q))
 | [],q=>⟨rfl,rfl⟩
 | a::l,q=>by
  have ih:=sl_q g1 g2 o1 o2 l (slG p k s m1 m2 P1 P2 q a)
  rw[List.foldl_cons,List.foldl_cons,List.foldl_cons]
  cases ho:slO k s (Prod.fst a) (Prod.snd a)
  ·have e:slG p k s m1 m2 P1 P2 q a=slT p m1 m2 P1 P2 (Prod.fst a) (Prod.snd a) q:=by unfold slG;rw[ho];rfl
   have e1:slV P1 (Pu.n p) k s (Qn.q (slA q)) a=Qn.q (slA (slT p m1 m2 P1 P2 (Prod.fst a) (Prod.snd a) q)):=by unfold slV;rw[ho];show _=Qn.q (Qn.add _ _);rw[Qn.add_q,valM_q g1 o1];rfl
   have e2:slV P2 (Pu.n p) k s (Qn.q (slB q)) a=Qn.q (slB (slT p m1 m2 P1 P2 (Prod.fst a) (Prod.snd a) q)):=by unfold slV;rw[ho];show _=Qn.q (Qn.add _ _);rw[Qn.add_q,valM_q g2 o2];rfl
   rw[e] at ih ⊢
   rw[e1,e2];exact ih
  have e:slG p k s m1 m2 P1 P2 q a=q:=by unfold slG;rw[ho];rfl
  have e1:slV P1 (Pu.n p) k s (Qn.q (slA q)) a=Qn.q (slA q):=by unfold slV;rw[ho];rfl
  have e2:slV P2 (Pu.n p) k s (Qn.q (slB q)) a=Qn.q (slB q):=by unfold slV;rw[ho];rfl
  rw[e] at ih ⊢
  rw[e1,e2];exact ih
theorem slcc:∀ (l:List KI) (q:Slo),jI (l.foldl (slG p k s m1 m2 P1 P2) q)=l.foldl (slI k s) (jI q)
 | [],q=>rfl
 | a::l,q=>by
  rw[List.foldl_cons,List.foldl_cons,slcc l]
  cases ho:slO k s (Prod.fst a) (Prod.snd a)
  ·have e:slG p k s m1 m2 P1 P2 q a=slT p m1 m2 P1 P2 (Prod.fst a) (Prod.snd a) q:=by unfold slG;rw[ho];rfl
   rw[e];unfold slI;rw[ho];rfl
  have e:slG p k s m1 m2 P1 P2 q a=q:=by unfold slG;rw[ho];rfl
  rw[e];unfold slI;rw[ho];rfl
theorem sl_n2:jI (slW p f k s m1 m2)=slC p k s:=slcc _ _
theorem sl_y (g1:KP (j1 0 (plF f)) m1) (g2:KP (j1 1 (plF f)) m2) (h:SlHz p f k s) (hc:qQ f=0) (hn:jI (slW p f k s m1 m2)<=1000000) :
  Qn.q (Qn.dv (slA (slW p f k s m1 m2)) (Qn.ofN (jI (slW p f k s m1 m2))))=slY (j1 0 (plF f)) p k s/\Qn.q (Qn.dv (slB (slW p f k s m1 m2)) (Qn.ofN (jI (slW p f k s m1 m2))))=slY (j1 1 (plF f)) p k s:=by
 have hz:=h hc
 have e:=sl_q (p:=p) (k:=k) (s:=s) g1 g2 hz.2.2.1 hz.2.2.2.1 (kQ p) slZ
 have z:Qn.q frZ=0:=rfl
 rw[Qn.dv_q,Qn.dv_q,ofN_q hn,sl_n2]
 unfold slW slQ slF
 rw[e.1,e.2]
 unfold slY
 exact⟨by rw[show Qn.q (slA slZ)=0 from z],by rw[show Qn.q (slB slZ)=0 from z]⟩
theorem sl_z (g1:KP (j1 0 (plF f)) m1) (g2:KP (j1 1 (plF f)) m2) (hq:PuB p) (h:SlHz p f k s) (h1:¬smE1 p f≠0) (h3:¬((jI (slW p f k s m1 m2):Nat):Int)=0) :
  jI (slW p f k s m1 m2)<=1000000/\sz (Qn.q (slA (slW p f k s m1 m2)))+sz (Qn.q (Qn.ofN (jI (slW p f k s m1 m2))))<=62/\sz (Qn.q (slB (slW p f k s m1 m2)))+sz (Qn.q (Qn.ofN (jI (slW p f k s m1 m2))))<=62/\Qn.q (Qn.ofN (jI (slW p f k s m1 m2)))≠0:=by
 have hS:=sl_S g1 g2 (h (sm_f h1)).2.2.2.2 (hq.ok (sm_p h1)) (zC _) (zw _) (.inl Z)
 have n1:=hS.n
 have n2:=hS.ha.sz n1
 have n3:=hS.hb.sz n1
 have hn:jI (slW p f k s m1 m2)<=1000000:=qh n1 ah
 have hs:sz (Qn.q (Qn.ofN (jI (slW p f k s m1 m2))))<=9:=by
  rw[ofN_q hn,show ((jI (slW p f k s m1 m2):Nat):Rat)=(((jI (slW p f k s m1 m2):Nat):Int):Rat) from rfl]
  refine qh (sz_int _) ?_
  have:jk (Int.natAbs ((jI (slW p f k s m1 m2):Nat):Int))<=9:=jb (by rw[Int.natAbs_natCast];exact Nat.lt_of_le_of_lt n1 ah)
  omega
 refine⟨hn,?_,?_,?_⟩
 ·exact qh (Nat.add_le_add n2 hs) di
 ·exact qh (Nat.add_le_add n3 hs) di
 rw[ofN_q hn]
 intro e
 have:((jI (slW p f k s m1 m2):Nat):Rat)=((0:Nat):Rat):=e
 have:=Rat.natCast_inj.1 this
 omega
theorem sl_r {A B:Qn} {N:Nat} (h:N<=1000000/\sz (Qn.q A)+sz (Qn.q (Qn.ofN N))<=62/\sz (Qn.q B)+sz (Qn.q (Qn.ofN N))<=62/\Qn.q (Qn.ofN N)≠0):∀ a∈[Qn.dv A (Qn.ofN N),Qn.dv B (Qn.ofN N)],sz (Qn.q a)<=62:=by
 intro a ha
 have key:∀ X:Qn,sz (Qn.q X)+sz (Qn.q (Qn.ofN N))<=62->sz (Qn.q (Qn.dv X (Qn.ofN N)))<=62:=fun X hX=>by
  rw[Qn.dv_q];exact qh (sz_div _ _) hX
 rcases zG.1 ha with rfl|ha
 ·exact key _ h.2.1
 rw[zg.1 ha];exact key _ h.2.2.1
theorem sqr_b (hP:PuOk p) (h:¬sqE p k s≠0):(0<=k.1/\k.1<=15/\0<=k.2/\k.2<=15)/\1<=s/\s<=16:=by
 have h:=zi.1 h
 have hn:=pk_n hP
 unfold sqE at h
 rw[kL,kL,kL] at h
 have h1:=wi_0.1 h.1
 have h2:=wi_0.1 h.2.1
 have h3:=wi_0.1 h.2.2.1
 have e:wr64 (Pu.n p-max (Prod.fst k) (Prod.snd k))=Pu.n p-max (Prod.fst k) (Prod.snd k):=by unfold wr64;omega
 rw[e] at h3
 omega
theorem sqr_k (hP:PuOk p) (h:¬sqE p k s≠0):0<=k.1/\k.1<=100/\0<=k.2/\k.2<=100:=by have:=sqr_b hP h;omega
theorem sqr_s (hP:PuOk p) (h:¬sqE p k s≠0):0<=s/\s<=100:=by have:=sqr_b hP h;omega
theorem sxe {a b:List UInt8} {e:Int} (h:slE p f k s=e) (hx:slX p f k s=(a,b)):DV.tup [.pv (.agg [pS (bsO a),pS (bsO b)]),vI e]=.tup [.pv (.agg [pS (bsO (Prod.fst (slX p f k s))),pS (bsO (Prod.snd (slX p f k s)))]),vI (slE p f k s)]:=by rw[hx,h]
theorem sx0 {e:Int} (h:slE p f k s=e) (he:e≠0):DV.tup [.pv (.agg [pS (bsO []),pS (bsO [])]),vI e]=.tup [.pv (.agg [pS (bsO (Prod.fst (slX p f k s))),pS (bsO (Prod.snd (slX p f k s)))]),vI (slE p f k s)]:=
 sxe h (by unfold slX;rw[h,if_pos he])
theorem sx_1 (h:smE1 p f≠0):DV.tup [.pv (.agg [pS (bsO []),pS (bsO [])]),vI (smE1 p f)]=.tup [.pv (.agg [pS (bsO (Prod.fst (slX p f k s))),pS (bsO (Prod.snd (slX p f k s)))]),vI (slE p f k s)]:=
 sx0 (by unfold slE;rw[if_pos h]) h
theorem sx_2 (h:¬smE1 p f≠0) (h2:sqE p k s≠0):DV.tup [.pv (.agg [pS (bsO []),pS (bsO [])]),vI (sqE p k s)]=.tup [.pv (.agg [pS (bsO (Prod.fst (slX p f k s))),pS (bsO (Prod.snd (slX p f k s)))]),vI (slE p f k s)]:=
 sx0 (by unfold slE;rw[if_neg h,if_pos h2]) h2
theorem sx_3 (h:¬smE1 p f≠0) (h2:¬sqE p k s≠0) (h3:((jI (slW p f k s m1 m2):Nat):Int)=0):DV.tup [.pv (.agg [pS (bsO []),pS (bsO [])]),vI 7]=.tup [.pv (.agg [pS (bsO (Prod.fst (slX p f k s))),pS (bsO (Prod.snd (slX p f k s)))]),vI (slE p f k s)]:=
 sx0 (by unfold slE;rw[if_neg h,if_neg h2,if_pos dj]) ah
theorem slee {A B:Qn} (hA:Qn.q A=slY (j1 0 (plF f)) p k s) (hB:Qn.q B=slY (j1 1 (plF f)) p k s) (h:¬smE1 p f≠0) (h2:¬sqE p k s≠0) (h3:¬((jI (slW p f k s m1 m2):Nat):Int)=0):slE p f k s=jh [A,B]:=by
 unfold slE jh
 rw[if_neg h,if_neg h2,if_neg dj]
 simp[hA,hB]
theorem sx_4 {A B:Qn} (hs:Qn.q A=slY (j1 0 (plF f)) p k s/\Qn.q B=slY (j1 1 (plF f)) p k s) (h:¬smE1 p f≠0) (h2:¬sqE p k s≠0) (h3:¬((jI (slW p f k s m1 m2):Nat):Int)=0) (h4:jh [A,B]≠0):DV.tup [.pv (.agg [pS (bsO []),pS (bsO [])]),vI (jh [A,B])]=.tup [.pv (.agg [pS (bsO (Prod.fst (slX p f k s))),pS (bsO (Prod.snd (slX p f k s)))]),vI (slE p f k s)]:=
 sx0 (slee hs.1 hs.2 h h2 h3) h4
theorem sx_5 {A B:Qn} (hs:Qn.q A=slY (j1 0 (plF f)) p k s/\Qn.q B=slY (j1 1 (plF f)) p k s) (h:¬smE1 p f≠0) (h2:¬sqE p k s≠0) (h3:¬((jI (slW p f k s m1 m2):Nat):Int)=0) (h4:¬jh [A,B]≠0):DV.tup [.pv (.agg [pS (bsO (txt (Qn.q A))),pS (bsO (txt (Qn.q B)))]),vI 0]=.tup [.pv (.agg [pS (bsO (Prod.fst (slX p f k s))),pS (bsO (Prod.snd (slX p f k s)))]),vI (slE p f k s)]:=by
 have e:slE p f k s=0:=(slee hs.1 hs.2 h h2 h3).trans (zi.1 h4)
 refine sxe e ?_
 unfold slX
 rw[if_neg aP,hs.1,hs.2]
end
noncomputable def rf38:Array Tmp×Code×Code:=(rfOf (fn38.body.getD .skip)).getD (#[],.skip,.skip)
noncomputable def ps38:Array Tmp:=rf38.1
noncomputable def as38:Code:=rf38.2.1
noncomputable def bo38:Code:=rf38.2.2
noncomputable abbrev rZS (us:List Value) (fn:FuncId) (D:Nat) (st:LoopState) (pe:Option Code):MO:=.obj (recL fn us ps38 as38 bo38 D st pe)
abbrev dsS:List DV:=[.dead,.dead,.dead,.dead,.bref 34 0,.dead,.bref 36 0,.bref 37 0,.dead,.dead,.dead,.dead,.bref 42 0,.bref 43 0,.bref 44 0]++List.replicate 108 .dead
theorem ag57:aggT tab 57=some true:=ae
theorem ag68:aggT tab 68=some true:=ae
theorem sz57:szT tab 57=some 2:=ae
theorem sz68:szT tab 68=some 2:=ae
theorem un68:tab.underlying 68=some (.array 2 33):=ae
theorem asgS [Fc] (us:List Value) (fn:FuncId) (D:Nat) (p:Pu) (k:KI) (s:Int) (m1 m2:List (KI×Qn)) (P1 P2:PL) (q:Slo) (c r:Int):TK Tryz.prog 123 2001 (fun e' s'=>e'=.normal/\Sub 2001 s' ⟨[(4,.bref 34 0),(6,.bref 36 0),(7,.bref 37 0),(12,.bref 42 0),(13,.bref 43 0),(14,.bref 44 0),(15,vI c),(16,vI r)],[(34,.box 66 [vI (Pu.n p),vS (bsO (Pu.a p)),vS (bsO (Pu.h p)),vL eV (Pu.v p)]),(36,.box 57 [vI (Prod.fst k),vI (Prod.snd k)]),(37,.box 3 [vI s]),(42,.box 160 [.mref 70,.mref 73]),(43,.box 193 [vI (Qn.n (slA q)),.pv (.lit (.slice none 0 0)),vI (Qn.d (slA q)),.pv (.lit (.slice none 0 0)),vI (Qn.n (slB q)),.pv (.lit (.slice none 0 0)),vI (Qn.d (slB q)),.pv (.lit (.slice none 0 0))]),(44,.box 3 [vI ((jI q:Nat):Int)]),(70,(kO eP m1)),(73,(kO eP m2)),(950,(rZS us fn D .ready none))]⟩) as38 [] ⟨[(4,.bref 34 0),(6,.bref 36 0),(7,.bref 37 0),(12,.bref 42 0),(13,.bref 43 0),(14,.bref 44 0),(50,vI c),(51,vI r)],[(34,.box 66 [vI (Pu.n p),vS (bsO (Pu.a p)),vS (bsO (Pu.h p)),vL eV (Pu.v p)]),(36,.box 57 [vI (Prod.fst k),vI (Prod.snd k)]),(37,.box 3 [vI s]),(42,.box 160 [.mref 70,.mref 73]),(43,.box 193 [vI (Qn.n (slA q)),.pv (.lit (.slice none 0 0)),vI (Qn.d (slA q)),.pv (.lit (.slice none 0 0)),vI (Qn.n (slB q)),.pv (.lit (.slice none 0 0)),vI (Qn.d (slB q)),.pv (.lit (.slice none 0 0))]),(44,.box 3 [vI ((jI q:Nat):Int)]),(70,(kO eP m1)),(73,(kO eP m2)),(950,(rZS us fn D .ready none))]⟩:=by
 exact kc (Rn Z ⟨rfl,sb Z Z rfl⟩)
theorem bodS0 [Fc] (us:List Value) (fn:FuncId) (D:Nat) (p:Pu) (k:KI) (s:Int) (m1 m2:List (KI×Qn)) (P1 P2:PL) (q:Slo) (c r:Int) (ho:slO k s c r=true) (hn:2<=Pu.n p/\Pu.n p<=16) (hc:0<=c/\c<=16) (hr:0<=r/\r<=16) (hk:0<=k.1/\k.1<=100/\0<=k.2/\k.2<=100) (hs:0<=s/\s<=100):TK Tryz.prog 123 2001 (fun e' s'=>e'=.normal/\Sub 2001 s' ⟨[],(950,rZS us fn D .busy none)::[(34,.box 66 [vI (Pu.n p),vS (bsO (Pu.a p)),vS (bsO (Pu.h p)),vL eV (Pu.v p)]),(36,.box 57 [vI (Prod.fst k),vI (Prod.snd k)]),(37,.box 3 [vI s]),(42,.box 160 [.mref 70,.mref 73]),(43,.box 193 [vI (Qn.n (slA q)),.pv (.lit (.slice none 0 0)),vI (Qn.d (slA q)),.pv (.lit (.slice none 0 0)),vI (Qn.n (slB q)),.pv (.lit (.slice none 0 0)),vI (Qn.d (slB q)),.pv (.lit (.slice none 0 0))]),(44,.box 3 [vI ((jI q:Nat):Int)]),(70,(kO eP m1)),(73,(kO eP m2))]⟩) bo38 [] ⟨[(4,.bref 34 0),(6,.bref 36 0),(7,.bref 37 0),(12,.bref 42 0),(13,.bref 43 0),(14,.bref 44 0),(15,vI c),(16,vI r)],[(34,.box 66 [vI (Pu.n p),vS (bsO (Pu.a p)),vS (bsO (Pu.h p)),vL eV (Pu.v p)]),(36,.box 57 [vI (Prod.fst k),vI (Prod.snd k)]),(37,.box 3 [vI s]),(42,.box 160 [.mref 70,.mref 73]),(43,.box 193 [vI (Qn.n (slA q)),.pv (.lit (.slice none 0 0)),vI (Qn.d (slA q)),.pv (.lit (.slice none 0 0)),vI (Qn.n (slB q)),.pv (.lit (.slice none 0 0)),vI (Qn.d (slB q)),.pv (.lit (.slice none 0 0))]),(44,.box 3 [vI ((jI q:Nat):Int)]),(70,(kO eP m1)),(73,(kO eP m2)),(950,(rZS us fn D .busy none))]⟩:=by
 skip
 refine kc (E Z (B.run Z) (Eg Z Z (fun hc=>B.move Z) Z (Eg Z Z (fun hc=>B.run Z) Z (Eg Z Z (fun hc=>B.kJ (qz Z hc) Z Z ag3 sz3 Z) Z (Eg Z Z (fun hc=>B.kJ Z Z Z ag3 sz3 Z) Z (Eg Z Z (fun hc=>B.add (qz Z hc) (qz Z hc) bj) Z (Eg Z Z (fun hc=>B.geq (qz Z hc) (qz Z hc)) Z (E Z (B.pick Z Z Z Z (gdB Z) (jj _)) (Eg Z Z (fun hc=>B.move Z) Z (Eg Z Z (fun hc=>B.run Z) Z (Eg Z Z (fun hc=>B.kJ (qz Z hc) Z Z ag3 sz3 Z) Z (Eg Z Z (fun hc=>B.lss (qz Z hc) (qz Z hc)) Z (E Z (B.pick Z Z Z Z (gdB Z) (jj _)) ?_)))))))))))))
 refine Eg Z Z (fun hc=>B.move Z) Z (Eg Z Z (fun hc=>B.run Z) Z (Eg Z Z (fun hc=>B.kJ (qz Z hc) Z Z ag3 sz3 Z) Z (Eg Z Z (fun hc=>B.kJ Z Z Z ag3 sz3 Z) Z (Eg Z Z (fun hc=>B.add (qz Z hc) (qz Z hc) bj) Z (Eg Z Z (fun hc=>B.geq (qz Z hc) (qz Z hc)) Z (E Z (B.pick Z Z Z Z (gdB Z) (jj _)) (Cb Z Z (fun h1=>?_) (fun h1=>?_))))))))
 ·exact Rn Z ⟨rfl,sb Z Z rfl⟩
 exact absurd (ho.symm.trans h1) ah
theorem ylS0 (us:List Value) (fn:FuncId) (D:Nat) (p:Pu) (k:KI) (s:Int) (m1 m2:List (KI×Qn)) (P1 P2:PL) (q:Slo) (c r:Int) (hu:List.length us=123) (ho:slO k s c r=true) (hn:2<=Pu.n p/\Pu.n p<=16) (hc:0<=c/\c<=16) (hr:0<=r/\r<=16) (hk:0<=k.1/\k.1<=100/\0<=k.2/\k.2<=100) (hs:0<=s/\s<=100):YldOk Tryz.prog 950 us dsS [vI c,vI r] (qw ((950,rZS us fn D .ready none)::[(34,.box 66 [vI (Pu.n p),vS (bsO (Pu.a p)),vS (bsO (Pu.h p)),vL eV (Pu.v p)]),(36,.box 57 [vI (Prod.fst k),vI (Prod.snd k)]),(37,.box 3 [vI s]),(42,.box 160 [.mref 70,.mref 73]),(43,.box 193 [vI (Qn.n (slA q)),.pv (.lit (.slice none 0 0)),vI (Qn.d (slA q)),.pv (.lit (.slice none 0 0)),vI (Qn.n (slB q)),.pv (.lit (.slice none 0 0)),vI (Qn.d (slB q)),.pv (.lit (.slice none 0 0))]),(44,.box 3 [vI ((jI q:Nat):Int)]),(70,(kO eP m1)),(73,(kO eP m2))])) (lit (.bool true)) ((950,rZS us fn D .ready none)::[(34,.box 66 [vI (Pu.n p),vS (bsO (Pu.a p)),vS (bsO (Pu.h p)),vL eV (Pu.v p)]),(36,.box 57 [vI (Prod.fst k),vI (Prod.snd k)]),(37,.box 3 [vI s]),(42,.box 160 [.mref 70,.mref 73]),(43,.box 193 [vI (Qn.n (slA q)),.pv (.lit (.slice none 0 0)),vI (Qn.d (slA q)),.pv (.lit (.slice none 0 0)),vI (Qn.n (slB q)),.pv (.lit (.slice none 0 0)),vI (Qn.d (slB q)),.pv (.lit (.slice none 0 0))]),(44,.box 3 [vI ((jI q:Nat):Int)]),(70,(kO eP m1)),(73,(kO eP m2))]):=
 YldOk.of (n:=123) (nb:=2001) (tm1:=[(4,.bref 34 0),(6,.bref 36 0),(7,.bref 37 0),(12,.bref 42 0),(13,.bref 43 0),(14,.bref 44 0),(15,vI c),(16,vI r)]) (l1:=[(34,.box 66 [vI (Pu.n p),vS (bsO (Pu.a p)),vS (bsO (Pu.h p)),vL eV (Pu.v p)]),(36,.box 57 [vI (Prod.fst k),vI (Prod.snd k)]),(37,.box 3 [vI s]),(42,.box 160 [.mref 70,.mref 73]),(43,.box 193 [vI (Qn.n (slA q)),.pv (.lit (.slice none 0 0)),vI (Qn.d (slA q)),.pv (.lit (.slice none 0 0)),vI (Qn.n (slB q)),.pv (.lit (.slice none 0 0)),vI (Qn.d (slB q)),.pv (.lit (.slice none 0 0))]),(44,.box 3 [vI ((jI q:Nat):Int)]),(70,(kO eP m1)),(73,(kO eP m2)),(950,(rZS us fn D .ready none))]) (ps:=ps38) (assign:=as38) (body:=bo38) true hu Z ah (allLt Z) Z rfl
  (fun r'=>letI ic:Fc:=⟨some r'⟩;TK.start (TK.norm ⟨[(4,.bref 34 0),(6,.bref 36 0),(7,.bref 37 0),(12,.bref 42 0),(13,.bref 43 0),(14,.bref 44 0),(50,vI c),(51,vI r)],[(34,.box 66 [vI (Pu.n p),vS (bsO (Pu.a p)),vS (bsO (Pu.h p)),vL eV (Pu.v p)]),(36,.box 57 [vI (Prod.fst k),vI (Prod.snd k)]),(37,.box 3 [vI s]),(42,.box 160 [.mref 70,.mref 73]),(43,.box 193 [vI (Qn.n (slA q)),.pv (.lit (.slice none 0 0)),vI (Qn.d (slA q)),.pv (.lit (.slice none 0 0)),vI (Qn.n (slB q)),.pv (.lit (.slice none 0 0)),vI (Qn.d (slB q)),.pv (.lit (.slice none 0 0))]),(44,.box 3 [vI ((jI q:Nat):Int)]),(70,(kO eP m1)),(73,(kO eP m2)),(950,(rZS us fn D .ready none))]⟩ (sb Z Z Z) (asgS us fn D p k s m1 m2 P1 P2 q c r))) rfl
  (fun r'=>letI ic:Fc:=⟨some r'⟩;TK.start (TK.norm ⟨[(4,.bref 34 0),(6,.bref 36 0),(7,.bref 37 0),(12,.bref 42 0),(13,.bref 43 0),(14,.bref 44 0),(15,vI c),(16,vI r)],[(34,.box 66 [vI (Pu.n p),vS (bsO (Pu.a p)),vS (bsO (Pu.h p)),vL eV (Pu.v p)]),(36,.box 57 [vI (Prod.fst k),vI (Prod.snd k)]),(37,.box 3 [vI s]),(42,.box 160 [.mref 70,.mref 73]),(43,.box 193 [vI (Qn.n (slA q)),.pv (.lit (.slice none 0 0)),vI (Qn.d (slA q)),.pv (.lit (.slice none 0 0)),vI (Qn.n (slB q)),.pv (.lit (.slice none 0 0)),vI (Qn.d (slB q)),.pv (.lit (.slice none 0 0))]),(44,.box 3 [vI ((jI q:Nat):Int)]),(70,(kO eP m1)),(73,(kO eP m2)),(950,(rZS us fn D .busy none))]⟩ (sb Z Z Z) (bodS0 us fn D p k s m1 m2 P1 P2 q c r ho hn hc hr hk hs))) (allNe Z) (ndM_ok Z) Z rfl
theorem bodS1 [Fc] (us:List Value) (fn:FuncId) (D:Nat) (p:Pu) (k:KI) (s:Int) (m1 m2:List (KI×Qn)) (P1 P2:PL) (q:Slo) (c r:Int) (ho:slO k s c r=false) (hn:2<=Pu.n p/\Pu.n p<=16) (hc:0<=c/\c<=16) (hr:0<=r/\r<=16) (hk:0<=k.1/\k.1<=100/\0<=k.2/\k.2<=100) (hs:0<=s/\s<=100) (g1:KP P1 m1) (g2:KP P2 m2) (o1:OkP P1) (o2:OkP P2) (v1:SvOk P1 (jc (Pu.n p) c) (jc (Pu.n p) r)) (v2:SvOk P2 (jc (Pu.n p) c) (jc (Pu.n p) r)) (hq:SlS q):TK Tryz.prog 123 2001 (fun e' s'=>e'=.normal/\Sub 2001 s' ⟨[],(950,rZS us fn D .busy none)::[(34,.box 66 [vI (Pu.n p),vS (bsO (Pu.a p)),vS (bsO (Pu.h p)),vL eV (Pu.v p)]),(36,.box 57 [vI (Prod.fst k),vI (Prod.snd k)]),(37,.box 3 [vI s]),(42,.box 160 [.mref 70,.mref 73]),(43,.box 193 [vI (Qn.n (slA (slT p m1 m2 P1 P2 c r q))),.pv (.lit (.slice none 0 0)),vI (Qn.d (slA (slT p m1 m2 P1 P2 c r q))),.pv (.lit (.slice none 0 0)),vI (Qn.n (slB (slT p m1 m2 P1 P2 c r q))),.pv (.lit (.slice none 0 0)),vI (Qn.d (slB (slT p m1 m2 P1 P2 c r q))),.pv (.lit (.slice none 0 0))]),(44,.box 3 [vI ((jI (slT p m1 m2 P1 P2 c r q):Nat):Int)]),(70,(kO eP m1)),(73,(kO eP m2))]⟩) bo38 [] ⟨[(4,.bref 34 0),(6,.bref 36 0),(7,.bref 37 0),(12,.bref 42 0),(13,.bref 43 0),(14,.bref 44 0),(15,vI c),(16,vI r)],[(34,.box 66 [vI (Pu.n p),vS (bsO (Pu.a p)),vS (bsO (Pu.h p)),vL eV (Pu.v p)]),(36,.box 57 [vI (Prod.fst k),vI (Prod.snd k)]),(37,.box 3 [vI s]),(42,.box 160 [.mref 70,.mref 73]),(43,.box 193 [vI (Qn.n (slA q)),.pv (.lit (.slice none 0 0)),vI (Qn.d (slA q)),.pv (.lit (.slice none 0 0)),vI (Qn.n (slB q)),.pv (.lit (.slice none 0 0)),vI (Qn.d (slB q)),.pv (.lit (.slice none 0 0))]),(44,.box 3 [vI ((jI q:Nat):Int)]),(70,(kO eP m1)),(73,(kO eP m2)),(950,(rZS us fn D .busy none))]⟩:=by
 have hqn:=hq.n
 refine kc (E Z (B.run Z) (Eg Z Z (fun hc=>B.move Z) Z (Eg Z Z (fun hc=>B.run Z) Z (Eg Z Z (fun hc=>B.kJ (qz Z hc) Z Z ag3 sz3 Z) Z (Eg Z Z (fun hc=>B.kJ Z Z Z ag3 sz3 Z) Z (Eg Z Z (fun hc=>B.add (qz Z hc) (qz Z hc) bj) Z (Eg Z Z (fun hc=>B.geq (qz Z hc) (qz Z hc)) Z (E Z (B.pick Z Z Z Z (gdB Z) (jj _)) (Eg Z Z (fun hc=>B.move Z) Z (Eg Z Z (fun hc=>B.run Z) Z (Eg Z Z (fun hc=>B.kJ (qz Z hc) Z Z ag3 sz3 Z) Z (Eg Z Z (fun hc=>B.lss (qz Z hc) (qz Z hc)) Z (E Z (B.pick Z Z Z Z (gdB Z) (jj _)) ?_)))))))))))))
 refine Eg Z Z (fun hc=>B.move Z) Z (Eg Z Z (fun hc=>B.run Z) Z (Eg Z Z (fun hc=>B.kJ (qz Z hc) Z Z ag3 sz3 Z) Z (Eg Z Z (fun hc=>B.kJ Z Z Z ag3 sz3 Z) Z (Eg Z Z (fun hc=>B.add (qz Z hc) (qz Z hc) bj) Z (Eg Z Z (fun hc=>B.geq (qz Z hc) (qz Z hc)) Z (E Z (B.pick Z Z Z Z (gdB Z) (jj _)) (Cb Z Z (fun h1=>?_) (fun h1=>?_))))))))
 ·exact absurd (ho.symm.trans h1) ah
 refine E Z (B.add Z Z bj) (l1 (fun (i:Nat)=>[(4,.bref 34 0),(6,.bref 36 0),(7,.bref 37 0),(12,.bref 42 0),(13,.bref 43 0),(14,.bref 44 0),(15,vI c),(16,vI r),(80,vI ((i:Nat):Int))]) (fun i=>[(34,.box 66 [vI (Pu.n p),vS (bsO (Pu.a p)),vS (bsO (Pu.h p)),vL eV (Pu.v p)]),(36,.box 57 [vI (Prod.fst k),vI (Prod.snd k)]),(37,.box 3 [vI s]),(42,.box 160 [.mref 70,.mref 73]),(43,.box 193 [vI (Qn.n (sl0 i (slA q) (valM m1 P1 (jc (Pu.n p) c) (jc (Pu.n p) r)))),.pv (.lit (.slice none 0 0)),vI (Qn.d (sl0 i (slA q) (valM m1 P1 (jc (Pu.n p) c) (jc (Pu.n p) r)))),.pv (.lit (.slice none 0 0)),vI (Qn.n (sl1 i (slB q) (valM m2 P2 (jc (Pu.n p) c) (jc (Pu.n p) r)))),.pv (.lit (.slice none 0 0)),vI (Qn.d (sl1 i (slB q) (valM m2 P2 (jc (Pu.n p) c) (jc (Pu.n p) r)))),.pv (.lit (.slice none 0 0))]),(44,.box 3 [vI (((jI q:Nat):Int)+1)]),(70,(kO eP m1)),(73,(kO eP m2)),(950,(rZS us fn D .busy none))]) (fun i=>i<=2) (fun i=>2-i) 0 Z ?_ (sb Z Z Z) ?_)
 · decide
 intro i hI0
 refine Cp Z Z (fun h2=>?_) (fun h2=>?_)
 ·obtain rfl|rfl:i=0\/i=1:=aa
  ·refine E Z (B.run Z) (E Z (B.run Z) (C Z (w135 p c r hn ⟨hc.1,aa⟩ ⟨hr.1,aa⟩) Z Z Z (E Z (B.q6 (l:=[(70,(kO eP m1))]) (w115 m1 P1 (jc (Pu.n p) c) (jc (Pu.n p) r) 70 g1 o1 v1.ev) Z Z ⟨rfl,trivial⟩ rfl rfl) (C Z (w125 (sl0 0 (slA q) (valM m1 P1 (jc (Pu.n p) c) (jc (Pu.n p) r))) (valM m1 P1 (jc (Pu.n p) c) (jc (Pu.n p) r)) dl) Z Z Z (E Z (B.run Z) (Dr Z ae (E Z (B.add Z Z bj) (pk Z (L1 (0+1) ?_ ?_ (sb Z Z Z))))))))))
   · omega
   · omega
  refine E Z (B.run Z) (E Z (B.run Z) (C Z (w135 p c r hn ⟨hc.1,aa⟩ ⟨hr.1,aa⟩) Z Z Z (E Z (B.q6 (l:=[(73,(kO eP m2))]) (w115 m2 P2 (jc (Pu.n p) c) (jc (Pu.n p) r) 73 g2 o2 v2.ev) Z Z ⟨rfl,trivial⟩ rfl rfl) (C Z (w125 (sl1 1 (slB q) (valM m2 P2 (jc (Pu.n p) c) (jc (Pu.n p) r))) (valM m2 P2 (jc (Pu.n p) c) (jc (Pu.n p) r)) dl) Z Z Z (E Z (B.run Z) (Dr Z ae (E Z (B.add Z Z bj) (pk Z (L1 (1+1) ?_ ?_ (sb Z Z Z))))))))))
  · omega
  · omega
 obtain rfl:i=2:=aa
 exact Rn Z ⟨rfl,sb Z Z rfl⟩
theorem ylS1 (us:List Value) (fn:FuncId) (D:Nat) (p:Pu) (k:KI) (s:Int) (m1 m2:List (KI×Qn)) (P1 P2:PL) (q:Slo) (c r:Int) (hu:List.length us=123) (ho:slO k s c r=false) (hn:2<=Pu.n p/\Pu.n p<=16) (hc:0<=c/\c<=16) (hr:0<=r/\r<=16) (hk:0<=k.1/\k.1<=100/\0<=k.2/\k.2<=100) (hs:0<=s/\s<=100) (g1:KP P1 m1) (g2:KP P2 m2) (o1:OkP P1) (o2:OkP P2) (v1:SvOk P1 (jc (Pu.n p) c) (jc (Pu.n p) r)) (v2:SvOk P2 (jc (Pu.n p) c) (jc (Pu.n p) r)) (hq:SlS q):YldOk Tryz.prog 950 us dsS [vI c,vI r] (qw ((950,rZS us fn D .ready none)::[(34,.box 66 [vI (Pu.n p),vS (bsO (Pu.a p)),vS (bsO (Pu.h p)),vL eV (Pu.v p)]),(36,.box 57 [vI (Prod.fst k),vI (Prod.snd k)]),(37,.box 3 [vI s]),(42,.box 160 [.mref 70,.mref 73]),(43,.box 193 [vI (Qn.n (slA q)),.pv (.lit (.slice none 0 0)),vI (Qn.d (slA q)),.pv (.lit (.slice none 0 0)),vI (Qn.n (slB q)),.pv (.lit (.slice none 0 0)),vI (Qn.d (slB q)),.pv (.lit (.slice none 0 0))]),(44,.box 3 [vI ((jI q:Nat):Int)]),(70,(kO eP m1)),(73,(kO eP m2))])) (lit (.bool true)) ((950,rZS us fn D .ready none)::[(34,.box 66 [vI (Pu.n p),vS (bsO (Pu.a p)),vS (bsO (Pu.h p)),vL eV (Pu.v p)]),(36,.box 57 [vI (Prod.fst k),vI (Prod.snd k)]),(37,.box 3 [vI s]),(42,.box 160 [.mref 70,.mref 73]),(43,.box 193 [vI (Qn.n (slA (slT p m1 m2 P1 P2 c r q))),.pv (.lit (.slice none 0 0)),vI (Qn.d (slA (slT p m1 m2 P1 P2 c r q))),.pv (.lit (.slice none 0 0)),vI (Qn.n (slB (slT p m1 m2 P1 P2 c r q))),.pv (.lit (.slice none 0 0)),vI (Qn.d (slB (slT p m1 m2 P1 P2 c r q))),.pv (.lit (.slice none 0 0))]),(44,.box 3 [vI ((jI (slT p m1 m2 P1 P2 c r q):Nat):Int)]),(70,(kO eP m1)),(73,(kO eP m2))]):=
 YldOk.of (n:=123) (nb:=2001) (tm1:=[(4,.bref 34 0),(6,.bref 36 0),(7,.bref 37 0),(12,.bref 42 0),(13,.bref 43 0),(14,.bref 44 0),(15,vI c),(16,vI r)]) (l1:=[(34,.box 66 [vI (Pu.n p),vS (bsO (Pu.a p)),vS (bsO (Pu.h p)),vL eV (Pu.v p)]),(36,.box 57 [vI (Prod.fst k),vI (Prod.snd k)]),(37,.box 3 [vI s]),(42,.box 160 [.mref 70,.mref 73]),(43,.box 193 [vI (Qn.n (slA q)),.pv (.lit (.slice none 0 0)),vI (Qn.d (slA q)),.pv (.lit (.slice none 0 0)),vI (Qn.n (slB q)),.pv (.lit (.slice none 0 0)),vI (Qn.d (slB q)),.pv (.lit (.slice none 0 0))]),(44,.box 3 [vI ((jI q:Nat):Int)]),(70,(kO eP m1)),(73,(kO eP m2)),(950,(rZS us fn D .ready none))]) (ps:=ps38) (assign:=as38) (body:=bo38) true hu Z ah (allLt Z) Z rfl
  (fun r'=>letI ic:Fc:=⟨some r'⟩;TK.start (TK.norm ⟨[(4,.bref 34 0),(6,.bref 36 0),(7,.bref 37 0),(12,.bref 42 0),(13,.bref 43 0),(14,.bref 44 0),(50,vI c),(51,vI r)],[(34,.box 66 [vI (Pu.n p),vS (bsO (Pu.a p)),vS (bsO (Pu.h p)),vL eV (Pu.v p)]),(36,.box 57 [vI (Prod.fst k),vI (Prod.snd k)]),(37,.box 3 [vI s]),(42,.box 160 [.mref 70,.mref 73]),(43,.box 193 [vI (Qn.n (slA q)),.pv (.lit (.slice none 0 0)),vI (Qn.d (slA q)),.pv (.lit (.slice none 0 0)),vI (Qn.n (slB q)),.pv (.lit (.slice none 0 0)),vI (Qn.d (slB q)),.pv (.lit (.slice none 0 0))]),(44,.box 3 [vI ((jI q:Nat):Int)]),(70,(kO eP m1)),(73,(kO eP m2)),(950,(rZS us fn D .ready none))]⟩ (sb Z Z Z) (asgS us fn D p k s m1 m2 P1 P2 q c r))) rfl
  (fun r'=>letI ic:Fc:=⟨some r'⟩;TK.start (TK.norm ⟨[(4,.bref 34 0),(6,.bref 36 0),(7,.bref 37 0),(12,.bref 42 0),(13,.bref 43 0),(14,.bref 44 0),(15,vI c),(16,vI r)],[(34,.box 66 [vI (Pu.n p),vS (bsO (Pu.a p)),vS (bsO (Pu.h p)),vL eV (Pu.v p)]),(36,.box 57 [vI (Prod.fst k),vI (Prod.snd k)]),(37,.box 3 [vI s]),(42,.box 160 [.mref 70,.mref 73]),(43,.box 193 [vI (Qn.n (slA q)),.pv (.lit (.slice none 0 0)),vI (Qn.d (slA q)),.pv (.lit (.slice none 0 0)),vI (Qn.n (slB q)),.pv (.lit (.slice none 0 0)),vI (Qn.d (slB q)),.pv (.lit (.slice none 0 0))]),(44,.box 3 [vI ((jI q:Nat):Int)]),(70,(kO eP m1)),(73,(kO eP m2)),(950,(rZS us fn D .busy none))]⟩ (sb Z Z Z) (bodS1 us fn D p k s m1 m2 P1 P2 q c r ho hn hc hr hk hs g1 g2 o1 o2 v1 v2 hq))) (allNe Z) (ndM_ok Z) Z rfl
theorem w204S (us:List Value) (fn:FuncId) (D:Nat) (p:Pu) (k:KI) (s:Int) (m1 m2:List (KI×Qn)) (P1 P2:PL) (hu:List.length us=123) (hP:PuOk p) (hk:0<=k.1/\k.1<=100/\0<=k.2/\k.2<=100) (hs:0<=s/\s<=100) (g1:KP P1 m1) (g2:KP P2 m2) (o1:OkP P1) (o2:OkP P2) (hv:SvA p k s P1 P2):qD Tryz.prog 204 [.yld 950 us dsS,.bref 20 0] (qw ((950,rZS us fn D .ready none)::[(20,.box 66 [vI (Pu.n p),vS (bsO (Pu.a p)),vS (bsO (Pu.h p)),vL eV (Pu.v p)]),(34,.box 66 [vI (Pu.n p),vS (bsO (Pu.a p)),vS (bsO (Pu.h p)),vL eV (Pu.v p)]),(36,.box 57 [vI (Prod.fst k),vI (Prod.snd k)]),(37,.box 3 [vI s]),(42,.box 160 [.mref 70,.mref 73]),(43,.box 193 [vI (Qn.n (slA slZ)),.pv (.lit (.slice none 0 0)),vI (Qn.d (slA slZ)),.pv (.lit (.slice none 0 0)),vI (Qn.n (slB slZ)),.pv (.lit (.slice none 0 0)),vI (Qn.d (slB slZ)),.pv (.lit (.slice none 0 0))]),(44,.box 3 [vI ((jI slZ:Nat):Int)]),(70,(kO eP m1)),(73,(kO eP m2))])) (.tup []) (List.reverse ((950,rZS us fn D .ready none)::[(20,.box 66 [vI (Pu.n p),vS (bsO (Pu.a p)),vS (bsO (Pu.h p)),vL eV (Pu.v p)]),(34,.box 66 [vI (Pu.n p),vS (bsO (Pu.a p)),vS (bsO (Pu.h p)),vL eV (Pu.v p)]),(36,.box 57 [vI (Prod.fst k),vI (Prod.snd k)]),(37,.box 3 [vI s]),(42,.box 160 [.mref 70,.mref 73]),(70,(kO eP m1)),(73,(kO eP m2)),(43,.box 193 [vI (Qn.n (slA (slQ p k s m1 m2 P1 P2))),.pv (.lit (.slice none 0 0)),vI (Qn.d (slA (slQ p k s m1 m2 P1 P2))),.pv (.lit (.slice none 0 0)),vI (Qn.n (slB (slQ p k s m1 m2 P1 P2))),.pv (.lit (.slice none 0 0)),vI (Qn.d (slB (slQ p k s m1 m2 P1 P2))),.pv (.lit (.slice none 0 0))]),(44,.box 3 [vI ((jI (slQ p k s m1 m2 P1 P2):Nat):Int)])])):=by
 have hN:=pk_n hP
 refine cL 1001 ((950,rZS us fn D .ready none)::[(20,.box 66 [vI (Pu.n p),vS (bsO (Pu.a p)),vS (bsO (Pu.h p)),vL eV (Pu.v p)]),(34,.box 66 [vI (Pu.n p),vS (bsO (Pu.a p)),vS (bsO (Pu.h p)),vL eV (Pu.v p)]),(36,.box 57 [vI (Prod.fst k),vI (Prod.snd k)]),(37,.box 3 [vI s]),(42,.box 160 [.mref 70,.mref 73]),(43,.box 193 [vI (Qn.n (slA slZ)),.pv (.lit (.slice none 0 0)),vI (Qn.d (slA slZ)),.pv (.lit (.slice none 0 0)),vI (Qn.n (slB slZ)),.pv (.lit (.slice none 0 0)),vI (Qn.d (slB slZ)),.pv (.lit (.slice none 0 0))]),(44,.box 3 [vI ((jI slZ:Nat):Int)]),(70,(kO eP m1)),(73,(kO eP m2))]) qf204 Z (nB Z) Z Z (kc (l2 (fun (i:Nat) (q:Slo)=>[(0,.yld 950 us dsS),(1,.bref 20 0),(6,vI (Pu.n p)),(7,vI ((i:Nat):Int))]) (fun _ q=>[(20,.box 66 [vI (Pu.n p),vS (bsO (Pu.a p)),vS (bsO (Pu.h p)),vL eV (Pu.v p)]),(34,.box 66 [vI (Pu.n p),vS (bsO (Pu.a p)),vS (bsO (Pu.h p)),vL eV (Pu.v p)]),(36,.box 57 [vI (Prod.fst k),vI (Prod.snd k)]),(37,.box 3 [vI s]),(42,.box 160 [.mref 70,.mref 73]),(43,.box 193 [vI (Qn.n (slA q)),.pv (.lit (.slice none 0 0)),vI (Qn.d (slA q)),.pv (.lit (.slice none 0 0)),vI (Qn.n (slB q)),.pv (.lit (.slice none 0 0)),vI (Qn.d (slB q)),.pv (.lit (.slice none 0 0))]),(44,.box 3 [vI ((jI q:Nat):Int)]),(70,(kO eP m1)),(73,(kO eP m2)),(950,(rZS us fn D .ready none))]) (fun i q=>i<=Int.toNat (Pu.n p)/\q=(slF p k s m1 m2 P1 P2 (celT p i 0))) (fun i _=>Int.toNat (Pu.n p)-i) 0 slZ Z ?_ (sb Z Z Z) ?_))
 · exact⟨zw _,rfl⟩
 intro i q hI0
 refine Cp Z Z (fun h1=>?_) (fun h1=>?_)
 ·refine l2 (fun (j:Nat) (u:Slo)=>[(0,.yld 950 us dsS),(1,.bref 20 0),(3,vI ((i:Nat):Int)),(6,vI (Pu.n p)),(7,vI ((i:Nat):Int)),(11,vI (Pu.n p)),(12,vI ((j:Nat):Int))]) (fun _ u=>[(20,.box 66 [vI (Pu.n p),vS (bsO (Pu.a p)),vS (bsO (Pu.h p)),vL eV (Pu.v p)]),(34,.box 66 [vI (Pu.n p),vS (bsO (Pu.a p)),vS (bsO (Pu.h p)),vL eV (Pu.v p)]),(36,.box 57 [vI (Prod.fst k),vI (Prod.snd k)]),(37,.box 3 [vI s]),(42,.box 160 [.mref 70,.mref 73]),(43,.box 193 [vI (Qn.n (slA u)),.pv (.lit (.slice none 0 0)),vI (Qn.d (slA u)),.pv (.lit (.slice none 0 0)),vI (Qn.n (slB u)),.pv (.lit (.slice none 0 0)),vI (Qn.d (slB u)),.pv (.lit (.slice none 0 0))]),(44,.box 3 [vI ((jI u:Nat):Int)]),(70,(kO eP m1)),(73,(kO eP m2)),(950,(rZS us fn D .ready none))]) (fun j u=>j<=Int.toNat (Pu.n p)/\u=(slF p k s m1 m2 P1 P2 (celT p i j))) (fun j _=>Int.toNat (Pu.n p)-j) 0 q Z ?_ (sb Z Z Z) ?_
  · exact⟨zw _,hI0.2⟩
  intro j u hI1
  have hqs:=sl_s g1 g2 hv hP (i:=i) (j:=j) aa hI1.1 hI1.2
  refine Cp Z Z (fun h2=>?_) (fun h2=>?_)
  ·cases ho:slO k s ((j:Nat):Int) ((i:Nat):Int)
   ·refine C Z (w205 p ((j:Nat):Int) ((i:Nat):Int) hP aa aa) Z Z Z ?_
    refine ek Z ?_
    cases h3:(hasB p ((j:Nat):Int) ((i:Nat):Int))
    ·refine Ef' Z Z (Ef' Z Z (Ef' Z Z (Ef' Z Z (Ef' Z Z (E Z (B.pkF Z Z Z Z Z) (CF Z Z (E Z (B.add Z Z bj) (pk Z (L2 (j+1) u ?_ ?_ (sb Z Z Z))))))))))
     · first|exact⟨aa,sl_t ab ab hI1.2⟩|exact⟨aa,sl_o ab ab hI1.2⟩|exact⟨aa,sl_f ab hI1.2⟩
     · omega
    refine Et Z Z (B.run Z) (Et Z Z (B.move Z) (Et Z Z (B.move Z) (Et Z Z (B.yieldS (l:=(950,rZS us fn D .ready none)::[(34,.box 66 [vI (Pu.n p),vS (bsO (Pu.a p)),vS (bsO (Pu.h p)),vL eV (Pu.v p)]),(36,.box 57 [vI (Prod.fst k),vI (Prod.snd k)]),(37,.box 3 [vI s]),(42,.box 160 [.mref 70,.mref 73]),(43,.box 193 [vI (Qn.n (slA u)),.pv (.lit (.slice none 0 0)),vI (Qn.d (slA u)),.pv (.lit (.slice none 0 0)),vI (Qn.n (slB u)),.pv (.lit (.slice none 0 0)),vI (Qn.d (slB u)),.pv (.lit (.slice none 0 0))]),(44,.box 3 [vI ((jI u:Nat):Int)]),(70,(kO eP m1)),(73,(kO eP m2))]) (ylS1 us fn D p k s m1 m2 P1 P2 u ((j:Nat):Int) ((i:Nat):Int) hu ho hN ⟨aa,aa⟩ ⟨aa,aa⟩ hk hs g1 g2 o1 o2 (hv _ _ aa aa aa aa ho).1 (hv _ _ aa aa aa aa ho).2 hqs) Z Z ⟨rfl,rfl,rfl,rfl,rfl,rfl,rfl,rfl,rfl,trivial⟩ rfl rfl) (Et Z Z (B.not Z) (E Z (B.pkT Z Z Z Z Z) (Cb Z Z (fun h4=>?_) (fun h4=>?_)))))))
    ·exact absurd h4 ah
    refine E Z (B.add Z Z bj) (pk Z (L2 (j+1) (slT p m1 m2 P1 P2 ((j:Nat):Int) ((i:Nat):Int) u) ?_ ?_ (sb Z Z Z)))
    · first|exact⟨aa,sl_t ab ab hI1.2⟩|exact⟨aa,sl_o ab ab hI1.2⟩|exact⟨aa,sl_f ab hI1.2⟩
    · omega
   refine C Z (w205 p ((j:Nat):Int) ((i:Nat):Int) hP aa aa) Z Z Z ?_
   refine ek Z ?_
   cases h5:(hasB p ((j:Nat):Int) ((i:Nat):Int))
   ·refine Ef' Z Z (Ef' Z Z (Ef' Z Z (Ef' Z Z (Ef' Z Z (E Z (B.pkF Z Z Z Z Z) (CF Z Z (E Z (B.add Z Z bj) (pk Z (L2 (j+1) u ?_ ?_ (sb Z Z Z))))))))))
    · first|exact⟨aa,sl_t ab ab hI1.2⟩|exact⟨aa,sl_o ab ab hI1.2⟩|exact⟨aa,sl_f ab hI1.2⟩
    · omega
   refine Et Z Z (B.run Z) (Et Z Z (B.move Z) (Et Z Z (B.move Z) (Et Z Z (B.yieldS (l:=(950,rZS us fn D .ready none)::[(34,.box 66 [vI (Pu.n p),vS (bsO (Pu.a p)),vS (bsO (Pu.h p)),vL eV (Pu.v p)]),(36,.box 57 [vI (Prod.fst k),vI (Prod.snd k)]),(37,.box 3 [vI s]),(42,.box 160 [.mref 70,.mref 73]),(43,.box 193 [vI (Qn.n (slA u)),.pv (.lit (.slice none 0 0)),vI (Qn.d (slA u)),.pv (.lit (.slice none 0 0)),vI (Qn.n (slB u)),.pv (.lit (.slice none 0 0)),vI (Qn.d (slB u)),.pv (.lit (.slice none 0 0))]),(44,.box 3 [vI ((jI u:Nat):Int)]),(70,(kO eP m1)),(73,(kO eP m2))]) (ylS0 us fn D p k s m1 m2 P1 P2 u ((j:Nat):Int) ((i:Nat):Int) hu ho hN ⟨aa,aa⟩ ⟨aa,aa⟩ hk hs) Z Z ⟨rfl,rfl,rfl,rfl,rfl,rfl,rfl,rfl,rfl,trivial⟩ rfl rfl) (Et Z Z (B.not Z) (E Z (B.pkT Z Z Z Z Z) (Cb Z Z (fun h6=>?_) (fun h6=>?_)))))))
   ·exact absurd h6 ah
   refine E Z (B.add Z Z bj) (pk Z (L2 (j+1) u ?_ ?_ (sb Z Z Z)))
   · first|exact⟨aa,sl_t ab ab hI1.2⟩|exact⟨aa,sl_o ab ab hI1.2⟩|exact⟨aa,sl_f ab hI1.2⟩
   · omega
  refine E Z (B.add Z Z bj) (pk Z (L2 (i+1) u ?_ ?_ (sb Z Z Z)))
  · exact⟨aa,slnn aa hI1.2⟩
  · omega
 refine Rn Z ?_
 have e:q=slQ p k s m1 m2 P1 P2:=hI0.2.trans (by rw[show i=Int.toNat (Pu.n p) by omega];rfl)
 subst e
 exact q5 (val0:=.tup []) (out0:=[(44,.box 3 [vI ((jI (slQ p k s m1 m2 P1 P2):Nat):Int)]),(43,.box 193 [vI (Qn.n (slA (slQ p k s m1 m2 P1 P2))),.pv (.lit (.slice none 0 0)),vI (Qn.d (slA (slQ p k s m1 m2 P1 P2))),.pv (.lit (.slice none 0 0)),vI (Qn.n (slB (slQ p k s m1 m2 P1 P2))),.pv (.lit (.slice none 0 0)),vI (Qn.d (slB (slQ p k s m1 m2 P1 P2))),.pv (.lit (.slice none 0 0))]),(73,(kO eP m2)),(70,(kO eP m1)),(42,.box 160 [.mref 70,.mref 73]),(37,.box 3 [vI s]),(36,.box 57 [vI (Prod.fst k),vI (Prod.snd k)]),(34,.box 66 [vI (Pu.n p),vS (bsO (Pu.a p)),vS (bsO (Pu.h p)),vL eV (Pu.v p)]),(20,.box 66 [vI (Pu.n p),vS (bsO (Pu.a p)),vS (bsO (Pu.h p)),vL eV (Pu.v p)]),(950,(rZS us fn D .ready none))]) (.inl Z) ae Z rfl
theorem w38 (hp:qX) (p:Pu) (f:List Trm) (k:KI) (s:Int) (hlf:List.length f<=1000000) (hsf:∀ t∈f,List.length (Trm.c t)<=18) (hq:PuB p) (hz:SlHz p f k s):CKa 38 [.pv (.agg [pI (Pu.n p),pS (bsO (Pu.a p)),pS (bsO (Pu.h p)),pL eV (Pu.v p)]),vL eY f,.pv (.agg [pI (Prod.fst k),pI (Prod.snd k)]),vI s] (.tup [.pv (.agg [pS (bsO (Prod.fst (slX p f k s))),pS (bsO (Prod.snd (slX p f k s)))]),vI (slE p f k s)]):=by
 refine cL 30 [] qf38 Z (nB Z) Z Z (kc (C Z (w76 p hq.a (fun e=>qh (hq.az e) ah) hq.h (fun e e2=>by have:=hq.az e;have:=hq.hz e2;omega) hq.l hq.v (fun v hv e=>qh (hq.vz v hv e).1 ah)) Z Z Z (C Z (w81 f hlf hsf) Z Z Z (E Z (B.ja (val:=.pv (.slice (List.map eI [(puE p),(qQ f)]))) (val0:=.aref 54 0) (m0:=[(54,.arr 0 1 24 [[pI (puE p)],[pI (qQ f)]])]) (rd:=[]) ae (fun l=>Frz.arr l _ _ _ _ _) Z) (C Z (w98 [(puE p),(qQ f)] (nB Z)) Z Z Z (Cp Z Z (fun h1=>?_) (fun h1=>?_)))))))
 ·refine E Z (B.run (val:=.pv (.agg [pS (bsO []),pS (bsO [])])) (m:=[]) (rd:=[]) ae) ?_
  refine Rt Z ?_
  exact q5 (val0:=.tup [.pv (.agg [pS (bsO []),pS (bsO [])]),vI (qB [(puE p),(qQ f)])]) (out0:=[]) (.inr Z) ae dm rfl
 refine C Z (w133 p k s (pk_n (hq.ok (sm_p ab)))) Z Z Z (Cp Z Z (fun h2=>?_) (fun h2=>?_))
 ·refine E Z (B.run (val:=.pv (.agg [pS (bsO []),pS (bsO [])])) (m:=[]) (rd:=[]) ae) ?_
  refine Rt Z ?_
  exact q5 (val0:=.tup [.pv (.agg [pS (bsO []),pS (bsO [])]),vI (sqE p k s)]) (out0:=[]) (.inr Z) ae dm rfl
 refine E Z (B.q6 (l:=[]) (w114k f 69 hlf (sm_f ab)) Z Z trivial Z Z) (E Z (B.q6 (l:=[(69,(kR (plF f)))]) (w117k 0 (plF f) 69 70 ah ah (hz (sm_f ab)).1 (hz (sm_f ab)).2.1) Z Z ⟨rfl,trivial⟩ rfl rfl) (E Z (B.q6 (l:=[]) (w114k f 72 hlf (sm_f ab)) Z Z trivial Z Z) (E Z (B.q6 (l:=[(72,(kR (plF f)))]) (w117k 1 (plF f) 72 73 ah ah (hz (sm_f ab)).1 (hz (sm_f ab)).2.1) Z Z ⟨rfl,trivial⟩ rfl rfl) (E Z (B.run Z) (C Z (w100 0 bj) Z Z Z (C Z (w100 0 bj) Z Z Z (E Z (B.run (val:=.pv (.agg [pI (Qn.n frZ),.lit (.slice none 0 0),pI (Qn.d frZ),.lit (.slice none 0 0),pI (Qn.n frZ),.lit (.slice none 0 0),pI (Qn.d frZ),.lit (.slice none 0 0)])) (m:=[]) (rd:=[]) ae) (E Z (B.run Z) ?_))))))))
 refine tk 9 Z ?_
 refine TK.openK (h:=70) Z (fun kv1 hkv1=>?_)
 obtain⟨m1,hm1,rfl⟩:=hkv1
 refine TK.openK (h:=73) Z (fun kv2 hkv2=>?_)
 obtain⟨m2,hm2,rfl⟩:=hkv2
 refine kc (E Z (B.q6 (l:=[]) (w134 p) Z Z trivial Z Z) ?_)
 refine tk 9999 Z ?_
 refine TK.norm ⟨[(4,.bref 34 0),(6,.bref 36 0),(7,.bref 37 0),(8,.bref 38 0),(9,vI 0),(12,.bref 42 0),(13,.bref 43 0),(14,.bref 44 0),(49,.clos (.func 204) [] [.bref 20 0])],[(20,.box 66 [vI (Pu.n p),vS (bsO (Pu.a p)),vS (bsO (Pu.h p)),vL eV (Pu.v p)]),(34,.box 66 [vI (Pu.n p),vS (bsO (Pu.a p)),vS (bsO (Pu.h p)),vL eV (Pu.v p)]),(36,.box 57 [vI (Prod.fst k),vI (Prod.snd k)]),(37,.box 3 [vI s]),(38,.box 68 [vS (bsO []),vS (bsO [])]),(42,.box 160 [.mref 70,.mref 73]),(43,.box 193 [vI (Qn.n (slA slZ)),.pv (.lit (.slice none 0 0)),vI (Qn.d (slA slZ)),.pv (.lit (.slice none 0 0)),vI (Qn.n (slB slZ)),.pv (.lit (.slice none 0 0)),vI (Qn.d (slB slZ)),.pv (.lit (.slice none 0 0))]),(44,.box 3 [vI ((jI slZ:Nat):Int)]),(70,(kO eP m1)),(73,(kO eP m2))]⟩ (sb Z Z Z) ?_
 refine TK.range (hl:=950) (ds:=dsS) (st:=.ready) (val:=.tup []) (out:=[(20,.box 66 [vI (Pu.n p),vS (bsO (Pu.a p)),vS (bsO (Pu.h p)),vL eV (Pu.v p)]),(34,.box 66 [vI (Pu.n p),vS (bsO (Pu.a p)),vS (bsO (Pu.h p)),vL eV (Pu.v p)]),(36,.box 57 [vI (Prod.fst k),vI (Prod.snd k)]),(37,.box 3 [vI s]),(42,.box 160 [.mref 70,.mref 73]),(70,(kO eP m1)),(73,(kO eP m2)),(43,.box 193 [vI (Qn.n (slA (slW p f k s m1 m2))),.pv (.lit (.slice none 0 0)),vI (Qn.d (slA (slW p f k s m1 m2))),.pv (.lit (.slice none 0 0)),vI (Qn.n (slB (slW p f k s m1 m2))),.pv (.lit (.slice none 0 0)),vI (Qn.d (slB (slW p f k s m1 m2))),.pv (.lit (.slice none 0 0))]),(44,.box 3 [vI ((jI (slW p f k s m1 m2):Nat):Int)])]) false (fun a w=>Tryz.call204 a w) Z Z Z (fun i _=>agD0 (tm:=[(4,.bref 34 0),(6,.bref 36 0),(7,.bref 37 0),(8,.bref 38 0),(9,vI 0),(12,.bref 42 0),(13,.bref 43 0),(14,.bref 44 0),(49,.clos (.func 204) [] [.bref 20 0])]) (ds:=dsS) ⟨rfl,rfl,rfl,rfl,rfl,rfl,trivial⟩ i) (fun us fn D hu=>(w204S us fn D p k s m1 m2 (j1 0 (plF f)) (j1 1 (plF f)) hu (hq.ok (sm_p ab)) (sqr_k (hq.ok (sm_p ab)) ab) (sqr_s (hq.ok (sm_p ab)) ab) hm1 hm2 (hz (sm_f ab)).2.2.1 (hz (sm_f ab)).2.2.2.1 (hz (sm_f ab)).2.2.2.2).rev.frL ⟨rfl,rfl,rfl,rfl,rfl,rfl,rfl,rfl,rfl,rfl,trivial⟩ rfl rfl) ah (allNe Z) ?_
 refine pc (Cp Z Z (fun h3=>?_) (fun h3=>?_))
 ·refine E Z (B.run (val:=.pv (.agg [pS (bsO []),pS (bsO [])])) (m:=[]) (rd:=[]) ae) ?_
  refine Rt Z ?_
  exact q5 (val0:=.tup [.pv (.agg [pS (bsO []),pS (bsO [])]),vI 7]) (out0:=[]) (.inr Z) ae dm rfl
 have slz:=sl_z hm1 hm2 hq hz ab ab
 have hnn:=slz.1
 have hsy:=sl_y hm1 hm2 hz (sm_f ab) hnn
 refine E Z (B.run Z) (C Z (w100n (jI (slW p f k s m1 m2)) hnn) Z Z Z (C Z (w128d (slA (slW p f k s m1 m2)) (Qn.ofN (jI (slW p f k s m1 m2))) dp slz.2.2.2) Z Z Z (E Z (B.run Z) (C Z (w100n (jI (slW p f k s m1 m2)) hnn) Z Z Z (C Z (w128d (slB (slW p f k s m1 m2)) (Qn.ofN (jI (slW p f k s m1 m2))) dp slz.2.2.2) Z Z Z (E Z (B.ja (val:=.pv (.slice (List.map eF [(Qn.dv (slA (slW p f k s m1 m2)) (Qn.ofN (jI (slW p f k s m1 m2)))),(Qn.dv (slB (slW p f k s m1 m2)) (Qn.ofN (jI (slW p f k s m1 m2))))]))) (val0:=.aref 142 0) (m0:=[(142,.arr 0 4 156 [[pI (Qn.n (Qn.dv (slA (slW p f k s m1 m2)) (Qn.ofN (jI (slW p f k s m1 m2))))),.lit (.slice none 0 0),pI (Qn.d (Qn.dv (slA (slW p f k s m1 m2)) (Qn.ofN (jI (slW p f k s m1 m2))))),.lit (.slice none 0 0)],[pI (Qn.n (Qn.dv (slB (slW p f k s m1 m2)) (Qn.ofN (jI (slW p f k s m1 m2))))),.lit (.slice none 0 0),pI (Qn.d (Qn.dv (slB (slW p f k s m1 m2)) (Qn.ofN (jI (slW p f k s m1 m2))))),.lit (.slice none 0 0)]])]) (rd:=[]) ae (fun l=>Frz.arr l _ _ _ _ _) Z) (C Z (w131 hp [(Qn.dv (slA (slW p f k s m1 m2)) (Qn.ofN (jI (slW p f k s m1 m2)))),(Qn.dv (slB (slW p f k s m1 m2)) (Qn.ofN (jI (slW p f k s m1 m2))))] (nB Z) (sl_r slz)) Z Z Z (Dr Z ae (Cp Z Z (fun h4=>?_) (fun h4=>?_))))))))))
 ·refine E Z (B.run (val:=.pv (.agg [pS (bsO []),pS (bsO [])])) (m:=[]) (rd:=[]) ae) ?_
  refine Rt Z ?_
  exact q5 (val0:=.tup [.pv (.agg [pS (bsO []),pS (bsO [])]),vI (jh [(Qn.dv (slA (slW p f k s m1 m2)) (Qn.ofN (jI (slW p f k s m1 m2)))),(Qn.dv (slB (slW p f k s m1 m2)) (Qn.ofN (jI (slW p f k s m1 m2))))])]) (out0:=[]) (.inr Z) ae dm rfl
 refine E Z (B.arrP (c0:=pS (bsO (txt (Qn.q (Qn.dv (slA (slW p f k s m1 m2)) (Qn.ofN (jI (slW p f k s m1 m2)))))))) (c1:=pS (bsO (txt (Qn.q (Qn.dv (slB (slW p f k s m1 m2)) (Qn.ofN (jI (slW p f k s m1 m2)))))))) un68 (arrL (by exact resT_2 ab))) ?_
 refine Rt Z ?_
 exact q5 (val0:=.tup [.pv (.agg [pS (bsO (txt (Qn.q (Qn.dv (slA (slW p f k s m1 m2)) (Qn.ofN (jI (slW p f k s m1 m2))))))),pS (bsO (txt (Qn.q (Qn.dv (slB (slW p f k s m1 m2)) (Qn.ofN (jI (slW p f k s m1 m2)))))))]),vI 0]) (out0:=[]) (.inr Z) ae dm rfl
end Go.Lens.Tb
end
