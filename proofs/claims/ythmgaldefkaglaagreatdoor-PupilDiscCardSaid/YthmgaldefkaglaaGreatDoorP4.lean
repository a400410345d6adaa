/- A part of the proof of PupilDiscCardSaid, without conditions. -/
import Derived.Test.YthmgaldefkaglaaGreatDoorP3
import Derived.Shelf.Strings.SlTrimAscii
import Derived.Test.YthmgaldefkaglaaGreatDoorProg
import Derived.Lib.SlTrimSet
import Derived.Lib.Bytealg
import Derived.Shelf.SlGeneric
import Derived.Shelf.SlSortCmp.WholeK
import Derived.Ground.SlsfProg
set_option linter.unusedVariables false
set_option linter.unusedSimpArgs false
set_option linter.unusedSectionVars false
set_option maxHeartbeats 4000000
section
namespace Go.Lens.Tb
open Go.Proofs Go.Lens.Un
variable [Lz]
set_option maxRecDepth 100000
attribute [local irreducible] TK PK T RG EfR Body CG
open Go.RowKit Go.Sort
def kq (s p:List UInt8):Bool:=decide (p.length<=s.length)&&decide (s.take p.length=p)
def qK (s p:List UInt8):List UInt8:=bif kq s p then s.drop p.length else s
section
variable {s p:List UInt8}
theorem hp_l (h:kq s p=true):p.length<=s.length:=by
 unfold kq at h
 simp only[zj,zf] at h
 exact h.1
theorem hp_m (h:(!(kq s p))=false):p.length<=s.length:=hp_l ai
theorem hp_1:(bif (decide (((p.length:Nat):Int)<=((s.length:Nat):Int))) then (decide ((List.take (p.length) s)=p)) else false)=kq s p:=by
 unfold kq
 rw[show decide (((p.length:Nat):Int)<=((s.length:Nat):Int))=decide (p.length<=s.length) from decide_eq_decide.2 aa]
 cases decide (p.length<=s.length)<;>rfl
theorem hp_2 (h:kq s p=true):List.drop (p.length) s=qK s p:=by unfold qK;rw[h];rfl
theorem hp_3 (h:kq s p=false):s=qK s p:=by unfold qK;rw[h];rfl
theorem hp_4 (h:(!(kq s p))=true):s=qK s p:=hp_3 ai
theorem hp_5 (h:(!(kq s p))=false):List.drop (p.length) s=qK s p:=hp_2 ai
theorem hp_6 (h:(!(kq s p))=true):false=kq s p:=by simpa using h.symm
theorem hp_7 (h:(!(kq s p))=false):true=kq s p:=by simpa using h.symm
end
def qX:Prop:=∃ g T fr,Tryz.prog.globalNamed "internal/strconv.uint64pow10" =some g/\Lz.L g=some (.cells (Lib.pow10Tab.map fun z=>Value.int .u64 z).toArray T fr)
theorem pow_tab {G:Gh} {look:Nat->Option MO} {w:World} (hp:qX) (M:Zc G look w):Lib.TabIs Tryz.prog w "internal/strconv.uint64pow10" .u64 Lib.pow10Tab:=by
 obtain⟨g,T,fr,h1,h2⟩:=hp
 obtain⟨_,h3⟩:=M.laid _ _ h2
 simp only[Lib.TabIs,World.var?,h1,z7,h3]
theorem grow_fin {G:Gh} {w:World} (M:Zc G (qw []) w) (k:Nat) (os:Array Obj) (s:ByteArray):∃ G',Stepped G w (qw []) (vS s) [] G' (grow (w.drewN k) os) (.string s):=by
 have hh:(grow (w.drewN k) os).heap=w.heap++os:=rfl
 refine⟨G,ki M.ctx Z Z Z (by rw[hh,Array.size_append];omega) (fun b hb=>by rw[hh,Array.getElem?_append_left hb]) (qL rfl) ak (fun _=>Nat.le_add_right _ _)⟩
theorem w262 (hp:qX) (n:Int) (h:R64 n):CKa 262 [vI n] (vS (bsO (Lib.itoa n))):=by
 unfold R64 at h
 refine⟨fun k hk=>by simp[DV.qP,DV.refs] at hk,fun G w vs M hv=>.inl ?_⟩
 obtain⟨v,rfl,hv1⟩:=hv.one
 obtain⟨rfl,_⟩:=qA hv1
 refine⟨Tryz.call262 _ _,Calls.mono (Tryz.strconv_Itoa n aa aa w (pow_tab hp M)) ?_⟩
 rintro e w' ⟨rfl,k,os,rfl⟩
 exact⟨_,rfl,grow_fin M k os _⟩
theorem w244 (l:List UInt8) (h:Dgs l) (hn:l≠[]) (hl:l.length<=18):CKa 244 [vS (bsO l)] (.tup [vI ((j0 l:Nat):Int),.pv (.lit .nilIface)]):=by
 refine⟨fun k hk=>by simp[DV.qP,DV.refs] at hk,fun G w vs M hv=>.inl ?_⟩
 obtain⟨v,rfl,hv1⟩:=hv.one
 obtain⟨rfl,_⟩:=qA hv1
 refine⟨Tryz.call244 _ _,Calls.mono (Tryz.strconv_Atoi (bsO l) _ hl (atoi_dg h hn) w) ?_⟩
 rintro e w' ⟨rfl,t,rfl⟩
 exact⟨_,rfl,G,ki M.ctx Z Z Z (by rw[Lib.bytesWorld_size];omega) (fun b hb=>Lib.bytesWorld_at_old w 5 t b hb) (by simp only[qx];exact⟨_,rfl,kW (vs:=[.int .i64 ((j0 l:Nat):Int),.nilIface]) au⟩) aL⟩
def RdOk (s:List UInt8):Prop:=Dgs (qK s [45])/\qK s [45]≠[]/\s.length<=19/\(qK s [45]).length<=18
def jG (s:List UInt8):Int:=bif kq s [45] then -((j0 (qK s [45]):Nat):Int) else ((j0 (qK s [45]):Nat):Int)
def RdI (d r:List UInt8) (o:Int):Prop:=(Dgs d/\d≠[]/\d.length<=18)/\((r=d/\o=0)\/(r=[]/\o=((j0 d:Nat):Int)))
section
variable {s d r:List UInt8} {o:Int} {m:Nat}
theorem rd_9 (h:RdOk s):s.length<=1000000000:=qh h.2.2.1 ah
theorem rd_l (h:RdI d r o):r.length<=18/\d.length<=18:=by
 obtain⟨⟨_,_,h⟩,⟨rfl,_⟩|⟨rfl,_⟩⟩:=h
 ·exact⟨h,h⟩
 exact⟨zw _,h⟩
theorem rd_min (r:List UInt8) (h:0<((r.length:Nat):Int)):∃ m:Nat,min 18 ((r.length:Nat):Int)=((m:Nat):Int)/\m<=18/\0<m/\m<=r.length:=⟨min 18 r.length,aa,aa,aa,aa⟩
theorem rd_a (h:RdI d r o) (h0:r≠[]):(r=d/\o=0):=h.2.resolve_right fun g=>h0 g.1
theorem rd_four (h:RdI d r o) (h1:m<=r.length) (h3:0<m) (h2:m<=18):Dgs (r.take m)/\r.take m≠[]/\(r.take m).length<=18:=by
 have h0:r≠[]:=by intro e;subst e;simp at h1;omega
 obtain⟨rfl,rfl⟩:=rd_a h h0
 refine⟨h.1.1.take m,fun e=>?_,by rw[zn];omega⟩
 have:=congrArg List.length e
 rw[zn,zd] at this;omega
theorem rd_lt {l:List UInt8} (h:Dgs l/\l≠[]/\l.length<=18):j0 l<1000000000000000000:=Nat.lt_of_lt_of_le (decV_lt h.1) (Nat.pow_le_pow_right (show 0<10 by decide) h.2.2)
theorem rd_five (h:Dgs (r.take m)/\r.take m≠[]/\(r.take m).length<=18):R64 ((j0 (r.take m):Nat):Int):=by
 have h1:=rd_lt h
 unfold R64;omega
theorem rd_pw {i:Nat} (h:i<=m) (h2:m<=18):Sm ((10:Int) ^ i):=by
 unfold Sm
 rw[Int.natAbs_pow]
 exact qh (Nat.pow_le_pow_right ah (qh h h2)) ah
theorem rd_o (h:RdI d r o) (h0:r≠[]):Sm o:=by rw[(rd_a h h0).2];decide
theorem rd_ml (h:RdI d r o) (h0:r≠[]):Sm (o*10 ^ m):=by rw[(rd_a h h0).2,Int.zero_mul];decide
theorem rd_vl (h:Dgs (r.take m)/\r.take m≠[]/\(r.take m).length<=18):Sm ((j0 (r.take m):Nat):Int):=by
 have h1:=rd_lt h
 unfold Sm;omega
theorem rd_sl (h:RdI d r o) (h0:r≠[]) (h4:Dgs (r.take m)/\r.take m≠[]/\(r.take m).length<=18):Sm (o*10 ^ m+((j0 (r.take m):Nat):Int)):=by
 rw[(rd_a h h0).2,Int.zero_mul,Int.zero_add];exact rd_vl h4
theorem rd_init (h:RdOk s):RdI (qK s [45]) (qK s [45]) 0:=⟨⟨h.1,h.2.1,h.2.2.2⟩,.inl ⟨rfl,rfl⟩⟩
theorem rd_step (h:RdI d r o) (h1:m<=r.length) (h3:0<m) (h0:r≠[]) (h2:min 18 ((r.length:Nat):Int)=((m:Nat):Int)):RdI d (r.drop m) (o*10 ^ m+((j0 (r.take m):Nat):Int)):=by
 obtain⟨e,e0⟩:=rd_a h h0
 have hl:=(rd_l h).1
 have em:m=r.length:=aa
 refine⟨h.1,.inr ⟨?_,?_⟩⟩
 ·rw[em,List.drop_length]
 rw[e0,Int.zero_mul,Int.zero_add,em,List.take_length,e]
theorem rd_end (h:RdI d r o) (h1:¬0<((r.length:Nat):Int)):o=((j0 d:Nat):Int):=by
 rcases h.2 with ⟨e,_⟩|⟨_,e⟩
 ·exact absurd (List.length_eq_zero_iff.1 (show r.length=0 by omega)) (e▸h.1.2.1)
 exact e
theorem rd_no (h:RdI d r o) (h1:¬0<((r.length:Nat):Int)):Sm o:=by
 rw[rd_end h h1]
 have h1:=rd_lt h.1
 unfold Sm;omega
theorem rd_e1 (h:RdI (qK s [45]) r o) (h1:¬0<((r.length:Nat):Int)) (h2:kq s [45]=true):(DV.pv (.agg [pI (-o),jl]))=.pv (.agg [pI (jG s),jl]):=by
 rw[rd_end h h1];unfold jG;rw[h2];rfl
theorem rd_e2 (h:RdI (qK s [45]) r o) (h1:¬0<((r.length:Nat):Int)) (h2:kq s [45]=false):(DV.pv (.agg [pI o,jl]))=.pv (.agg [pI (jG s),jl]):=by
 rw[rd_end h h1];unfold jG;rw[h2];rfl
end
theorem w276 (s p:List UInt8) (hs:List.length s<=1000000000) (hp:List.length p<=1000000000):CKa 276 [vS (bsO s),vS (bsO p)] (vB (kq s p)):=by
 exact cG qf276 Z (nB Z) Z (E Z (B.lenB (a:=s) Z un9) (E Z (B.lenB (a:=p) Z un9) (Eg Z Z (fun hc=>B.move Z) Z (Eg Z Z (fun hc=>B.move Z) Z (Eg Z Z (fun hc=>B.lenB (a:=p) (qz Z hc) un9) Z (Eg Z Z (fun hc=>B.slHB (a:=s) (j:=(p.length)) (qz Z hc) (qz Z hc) un9 Z bv) Z (Eg Z Z (fun hc=>B.move Z) Z (Eg Z Z (fun hc=>B.seqB (a:=(List.take (p.length) s)) (b:=p) (qz Z hc) (qz Z hc)) Z (E Z (B.pick Z Z Z (gdB Z) Z (q0 _)) (Rt Z (leaf (val0:=vB (bif (decide (((p.length:Nat):Int)<=((s.length:Nat):Int))) then (decide ((List.take (p.length) s)=p)) else false)) ae (lb (by exact hp_1)))))))))))))
theorem w242 (s p:List UInt8) (hs:List.length s<=1000000000) (hp:List.length p<=1000000000):CKa 242 [vS (bsO s),vS (bsO p)] (vB (kq s p)):=by
 exact cG qf242 Z (nB Z) Z (C Z (w276 s p hs hp) Z Z Z (Rt Z (leaf Z Z)))
theorem w285 (s p:List UInt8) (hs:List.length s<=1000000000) (hp:List.length p<=1000000000):CKa 285 [vS (bsO s),vS (bsO p)] (vS (bsO (qK s p))):=by
 refine cG qf285 Z (nB Z) Z (C Z (w276 s p hs hp) Z Z Z (Cb Z Z (fun h1=>?_) (fun h1=>?_)))
 ·exact E Z (B.lenB (a:=p) Z un9) (E Z (B.slLB (a:=s) (i:=(p.length)) Z Z un9 Z bv) (Rt Z (leaf (val0:=vS (bsO (List.drop (p.length) s))) ae (ls bw))))
 exact Rt Z (leaf (val0:=vS (bsO s)) ae (ls bw))
theorem w243 (s p:List UInt8) (hs:List.length s<=1000000000) (hp:List.length p<=1000000000):CKa 243 [vS (bsO s),vS (bsO p)] (vS (bsO (qK s p))):=by
 exact cG qf243 Z (nB Z) Z (C Z (w285 s p hs hp) Z Z Z (Rt Z (leaf Z Z)))
theorem w237 (s p:List UInt8) (hs:List.length s<=1000000000) (hp:List.length p<=1000000000):CKa 237 [vS (bsO s),vS (bsO p)] (.tup [vS (bsO (qK s p)),vB (kq s p)]):=by
 refine cG qf237 Z (nB Z) Z (C Z (w276 s p hs hp) Z Z Z (Cb Z Z (fun h1=>?_) (fun h1=>?_)))
 ·exact Rt Z (leaf (val0:=.tup [vS (bsO s),vB false]) ae (kh (ls bx) (lb bx)))
 exact E Z (B.lenB (a:=p) Z un9) (E Z (B.slLB (a:=s) (i:=(p.length)) Z Z un9 Z bv) (Rt Z (leaf (val0:=.tup [vS (bsO (List.drop (p.length) s)),vB true]) ae (kh (ls bx) (lb bx)))))
theorem w183 (s p:List UInt8) (hs:List.length s<=1000000000) (hp:List.length p<=1000000000):CKa 183 [vS (bsO s),vS (bsO p)] (.tup [vS (bsO (qK s p)),vB (kq s p)]):=by
 exact cG qf183 Z (nB Z) Z (C Z (w237 s p hs hp) Z Z Z (Rt Z (leaf Z Z)))
theorem w189 (s:List UInt8) (hs:RdOk s):CKa 189 [vS (bsO s)] (.pv (.agg [pI (jG s),.lit (.slice none 0 0)])):=by
 refine cG qf189 Z (nB Z) Z (E Z (B.ja Z (fun l=>Frz.jU l Z) Z) (C Z (w242 s [45] (rd_9 hs) ah) Z Z Z (C Z (w243 s [45] (rd_9 hs) ah) Z Z Z (E Z (B.ja (val:=.pv (.agg [pI 0,.lit (.slice none 0 0)])) Z (fun l=>Frz.aggZ l Z) Z) (E Z (B.ja Z (fun l=>Frz.jU l Z) Z) (l2 (fun (r:List UInt8) (o:Int)=>[(0,vS (bsO r)),(2,.bref 3 0),(3,vB (kq s [45])),(4,.bref 5 0)]) (fun _ o=>[(3,.box 154 [vI 0,.pv (.lit (.slice none 0 0))]),(5,.box 154 [vI o,.pv (.lit (.slice none 0 0))])]) (fun r o=>RdI (qK s [45]) r o) (fun r _=>List.length r) (qK s [45]) 0 Z ?_ (sb Z Z Z) ?_))))))
 · exact rd_init hs
 intro r o hI0
 refine E Z (B.lenB (a:=r) Z un9) (Cp Z Z (fun h1=>?_) (fun h1=>?_))
 ·refine E Z (B.lenB (a:=r) Z un9) (E Z (B.min Z Z) ?_)
  refine tk 6 Z ?_
  refine tn ⟨[(0,vS (bsO r)),(2,.bref 3 0),(3,vB (kq s [45])),(4,.bref 5 0),(5,vI (min 18 ((r.length:Nat):Int)))],[(3,.box 154 [vI 0,.pv (.lit (.slice none 0 0))]),(5,.box 154 [vI o,.pv (.lit (.slice none 0 0))])]⟩ rfl rfl Z ?_
  obtain⟨m,hm1,hr2,hr3,hr1⟩:=rd_min r h1
  have hr0:r≠[]:=by intro e;subst e;simp at hr1;omega
  have hr4:=rd_four hI0 hr1 hr3 hr2
  have hr5:=rd_five hr4
  rw[hm1]
  refine kc (E Z (B.slHB (a:=r) (j:=m) Z Z un9 Z bz) (C Z (w244 (List.take m r) hr4.1 hr4.2.1 hr4.2.2) Z Z Z (C Z (w177 10) Z Z Z (C Z (w245 10 m (fun i hi=>rd_pw hi hr2) aa) Z Z Z (C Z (w199 o (10 ^ m) (rd_o hI0 hr0) (rd_pw (zC m) hr2) (rd_ml hI0 hr0)) Z Z Z (C Z (w177 ((j0 (List.take m r):Nat):Int)) Z Z Z (C Z (w198 (o*(10 ^ m)) ((j0 (List.take m r):Nat):Int) (rd_ml hI0 hr0) (rd_vl hr4) (rd_sl hI0 hr0 hr4)) Z Z Z (Dr Z ae (E Z (B.slLB (a:=r) (i:=m) Z Z un9 Z bz) (pk Z (L2 (List.drop m r) ((o*(10 ^ m))+((j0 (List.take m r):Nat):Int)) ?_ ?_ (sb Z Z Z))))))))))))
  · exact rd_step hI0 hr1 hr3 hr0 hm1
  · (rw[zo];omega)
 refine Cb Z Z (fun h2=>?_) (fun h2=>?_)
 ·refine C Z (w192 o (rd_no hI0 h1)) Z Z Z ?_
  refine Rt Z ?_
  exact leaf (val0:=.pv (.agg [pI (-o),.lit (.slice none 0 0)])) ae b7
 refine Rt Z ?_
 exact leaf (val0:=.pv (.agg [pI o,.lit (.slice none 0 0)])) ae b7
theorem w222 (hp:qX) (x:Int) (hx:Sm x):CKa 222 [.pv (.agg [pI x,.lit (.slice none 0 0)])] (vS (bsO (Lib.itoa x))):=by
 refine cG qf222 Z (nB Z) Z (E Z (B.run Z) (CT Z Z (C Z (w262 hp x bj) Z Z Z ?_)))
 refine Rt Z ?_
 exact leaf (val0:=vS (bsO (Lib.itoa x))) ae bi
end Go.Lens.Tb
end
section
namespace Go.Lens.Un
theorem icast_ne {z:Int} (h:z≠0):(z:Rat)≠0:=by
 intro e
 exact h (Rat.intCast_inj.1 (by rw[e];rfl))
structure Qn where
 q:Rat
def Qn.n (x:Qn):Int:=x.q.num
def Qn.d (x:Qn):Int:=(x.q.den:Int)
theorem Qn.pos (x:Qn):0<x.d:=by have:=x.q.den_nz;unfold Qn.d;omega
theorem Qn.q_num (x:Qn):x.q.num=x.n:=rfl
theorem Qn.q_den (x:Qn):((x.q.den:Nat):Int)=x.d:=rfl
theorem Qn.q_div (x:Qn):x.q=(x.n:Rat) / (x.d:Rat):=by
 unfold Qn.n Qn.d
 conv=>lhs;rw[show x.q=⟨x.q.num,x.q.den,x.q.den_nz,x.q.reduced⟩ from rfl,Rat.mk_eq_divInt,Rat.divInt_eq_div]
theorem Qn.d_ne (x:Qn):(x.d:Rat)≠0:=icast_ne (by have:=x.pos;omega)
def one1 (y:Int):Bool:=decide (y=1)
theorem one1_1 {y:Int} (h:one1 y=true):y=1:=of_decide_eq_true h
theorem Qn.q_one {x:Qn}:one1 x.d=true↔x.q.den=1:=by unfold one1 Qn.d;rw[zf];omega
def Qn.make (x y:Int):Qn:=⟨(x:Rat) / (y:Rat)⟩
def Qn.whole (n:Int):Qn:=⟨(n:Rat)⟩
theorem Qn.whole_q {n:Int}:(Qn.whole n).q=(n:Rat):=rfl
def Qn.neg (x:Qn):Qn:=⟨-x.q⟩
theorem Qn.neg_q (x:Qn):x.neg.q= -x.q:=rfl
def Qn.add (x y:Qn):Qn:=⟨x.q+y.q⟩
theorem Qn.add_q (x y:Qn):(x.add y).q=x.q+y.q:=rfl
def Qn.sub (x y:Qn):Qn:=⟨x.q-y.q⟩
theorem Qn.sub_q (x y:Qn):(x.sub y).q=x.q-y.q:=rfl
def Qn.mul (x y:Qn):Qn:=⟨x.q*y.q⟩
theorem Qn.j6 (x y:Qn):(x.mul y).q=x.q*y.q:=rfl
def Qn.inv (x:Qn) (_:x.q≠0):Qn:=⟨x.q⁻¹⟩
theorem Qn.inv_q (x:Qn) (h:x.q≠0):(x.inv h).q=x.q⁻¹:=rfl
def Qn.div (x y:Qn) (_:y.q≠0):Qn:=⟨x.q / y.q⟩
theorem Qn.div_q (x y:Qn) (h:y.q≠0):(x.div y h).q=x.q / y.q:=rfl
theorem Qn.n_ne {x:Qn} (h:x.q≠0):x.n≠0:=fun e=>h (Rat.num_eq_zero.1 e)
theorem mk_nd {X Y:Int} (h:0<Y):((X:Rat) / (Y:Rat)).num=X / ((Nat.gcd X.natAbs Y.natAbs:Nat):Int)/\((((X:Rat) / (Y:Rat)).den:Nat):Int)=Y / ((Nat.gcd X.natAbs Y.natAbs:Nat):Int):=by
 obtain⟨d,rfl⟩:=Int.eq_ofNat_of_zero_le (Int.le_of_lt h)
 have h0:d≠0:=aa
 rw[<-Rat.divInt_eq_div,show Rat.divInt X (d:Int)=mkRat X d from rfl,<-Rat.normalize_eq_mkRat h0,Rat.normalize_eq]
 exact⟨rfl,by rw[Int.natAbs_natCast];exact Int.natCast_ediv ..⟩
theorem jb {n k:Nat} (h:n<2 ^ k):jk n<=k:=by
 by_cases h0:n=0
 ·subst h0;rw[show jk 0=0 from rfl];omega
 have h1:=blen_le h0
 rcases Nat.lt_or_ge k (jk n) with g|g
 ·exfalso
  have:=Nat.pow_le_pow_right (show 0<2 by decide) (show k<=jk n-1 by omega)
  omega
 exact g
theorem bl_mono {m n:Nat} (h:m<=n):jk m<=jk n:=jb (Nat.lt_of_le_of_lt h (blen_lt n))
theorem bl_mul (m n:Nat):jk (m*n)<=jk m+jk n:=by
 refine jb ?_
 rw[Nat.pow_add]
 exact Nat.mul_lt_mul'' (blen_lt m) (blen_lt n)
theorem bl_add {m n k:Nat} (hm:jk m<=k) (hn:jk n<=k):jk (m+n)<=k+1:=by
 refine jb ?_
 have h1:=Nat.lt_of_lt_of_le (blen_lt m) (Nat.pow_le_pow_right (show 0<2 by decide) hm)
 have h2:=Nat.lt_of_lt_of_le (blen_lt n) (Nat.pow_le_pow_right (show 0<2 by decide) hn)
 rw[Nat.pow_succ];omega
def sz (q:Rat):Nat:=max (jk q.num.natAbs) (jk q.den)
theorem Qn.bn (x:Qn):jk x.n.natAbs<=sz x.q:=Nat.le_max_left ..
theorem Qn.bd (x:Qn):jk x.d.natAbs<=sz x.q:=Nat.le_max_right ..
theorem nd_of {q:Rat} {a b:Int} (hb:b≠0) (h:q*(b:Rat)=(a:Rat)):q.num.natAbs<=a.natAbs/\q.den<=b.natAbs:=by
 have e:q.num*b=a*(q.den:Int):=by
  have hq:q=(q.num:Rat) / ((q.den:Int):Rat):=by
   conv=>lhs;rw[show q=⟨q.num,q.den,q.den_nz,q.reduced⟩ from rfl,Rat.mk_eq_divInt,Rat.divInt_eq_div]
  have hd:(((q.den:Nat):Int):Rat)≠0:=icast_ne b8
  have:((q.num*b:Int):Rat)=((a*(q.den:Int):Int):Rat):=by
   rw[Rat.intCast_mul,Rat.intCast_mul,<-h]
   generalize (b:Rat)=B at*
   generalize (((q.den:Nat):Int):Rat)=D at*
   generalize (q.num:Rat)=N at*
   grind
  exact Rat.intCast_inj.1 this
 have e2:q.num.natAbs*b.natAbs=a.natAbs*q.den:=by
  have:=congrArg Int.natAbs e
  rwa [Int.natAbs_mul,Int.natAbs_mul,Int.natAbs_natCast] at this
 have hc:Nat.Coprime q.num.natAbs q.den:=q.reduced
 have h1:q.den ∣ b.natAbs:=by
  have:q.den ∣ q.num.natAbs*b.natAbs:=by rw[e2];exact Nat.dvd_mul_left ..
  exact (Nat.Coprime.dvd_of_dvd_mul_left hc.symm this)
 have h2:q.num.natAbs ∣ a.natAbs:=by
  have:q.num.natAbs ∣ a.natAbs*q.den:=by rw[<-e2];exact Nat.dvd_mul_right ..
  exact (Nat.Coprime.dvd_of_dvd_mul_right hc this)
 have h3:q.den<=b.natAbs:=Nat.le_of_dvd aa h1
 refine⟨?_,h3⟩
 by_cases h0:a.natAbs=0
 ·rw[h0,Nat.zero_mul] at e2
  rcases Nat.mul_eq_zero.1 e2 with g|g<;>omega
 exact Nat.le_of_dvd aa h2
theorem sz_of {q:Rat} {a b:Int} {k:Nat} (hb:b≠0) (h:q*(b:Rat)=(a:Rat)) (ha:jk a.natAbs<=k) (hk:jk b.natAbs<=k):sz q<=k:=by
 have:=nd_of hb h
 exact Nat.max_le.2 ⟨qh (bl_mono this.1) ha,qh (bl_mono this.2) hk⟩
theorem q_mul (q:Rat):q*((q.den:Int):Rat)=(q.num:Rat):=by
 have hq:q=(q.num:Rat) / ((q.den:Int):Rat):=by
  conv=>lhs;rw[show q=⟨q.num,q.den,q.den_nz,q.reduced⟩ from rfl,Rat.mk_eq_divInt,Rat.divInt_eq_div]
 have hd:(((q.den:Nat):Int):Rat)≠0:=icast_ne b8
 generalize (((q.den:Nat):Int):Rat)=D at*
 generalize (q.num:Rat)=N at*
 grind
theorem sz_n (q:Rat):jk q.num.natAbs<=sz q:=Nat.le_max_left ..
theorem sz_d (q:Rat):jk q.den<=sz q:=Nat.le_max_right ..
theorem den_ne (q:Rat):((q.den:Nat):Int)≠0:=by have:=q.den_nz;omega
theorem sz_add (p q:Rat):sz (p+q)<=sz p+sz q+1:=by
 refine sz_of (a:=p.num*q.den+q.num*p.den) (b:=(p.den:Int)*q.den) (Int.mul_ne_zero (den_ne p) (den_ne q)) ?_ ?_ ?_
 ·rw[Rat.intCast_add,Rat.intCast_mul,Rat.intCast_mul,Rat.intCast_mul]
  have h1:=q_mul p
  have h2:=q_mul q
  generalize (((q.den:Nat):Int):Rat)=D at*
  generalize (((p.den:Nat):Int):Rat)=E at*
  generalize (q.num:Rat)=N at*
  generalize (p.num:Rat)=M at*
  grind
 ·have h:(p.num*q.den+q.num*p.den).natAbs<=p.num.natAbs*q.den+q.num.natAbs*p.den:=by
   refine qh (Int.natAbs_add_le _ _) ?_
   rw[Int.natAbs_mul,Int.natAbs_mul,Int.natAbs_natCast,Int.natAbs_natCast]
   exact zC _
  refine qh (bl_mono h) (bl_add ?_ ?_)
  ·exact qh (bl_mul _ _) (Nat.add_le_add (sz_n p) (sz_d q))
  rw[Nat.add_comm];exact qh (bl_mul _ _) (Nat.add_le_add (sz_n q) (sz_d p))
 rw[Int.natAbs_mul,Int.natAbs_natCast,Int.natAbs_natCast]
 have:=bl_mul p.den q.den
 have:=sz_d p
 have:=sz_d q
 omega
theorem sz_mul (p q:Rat):sz (p*q)<=sz p+sz q:=by
 refine sz_of (a:=p.num*q.num) (b:=(p.den:Int)*q.den) (Int.mul_ne_zero (den_ne p) (den_ne q)) ?_ ?_ ?_
 ·rw[Rat.intCast_mul,Rat.intCast_mul]
  have h1:=q_mul p
  have h2:=q_mul q
  generalize (((q.den:Nat):Int):Rat)=D at*
  generalize (((p.den:Nat):Int):Rat)=E at*
  generalize (q.num:Rat)=N at*
  generalize (p.num:Rat)=M at*
  grind
 ·rw[Int.natAbs_mul]
  exact qh (bl_mul _ _) (Nat.add_le_add (sz_n p) (sz_n q))
 rw[Int.natAbs_mul,Int.natAbs_natCast,Int.natAbs_natCast]
 exact qh (bl_mul _ _) (Nat.add_le_add (sz_d p) (sz_d q))
theorem sz_neg (q:Rat):sz (-q)=sz q:=by
 unfold sz
 rw[Rat.neg_num,Rat.neg_den,Int.natAbs_neg]
theorem sz_inv (q:Rat):sz q⁻¹<=sz q:=by
 by_cases h:q=0
 ·subst h;rw[Rat.inv_zero];exact zC _
 have hn:q.num≠0:=fun e=>h (Rat.num_eq_zero.1 e)
 refine sz_of (a:=(q.den:Int)) (b:=q.num) hn ?_ ?_ (sz_n q)
 ·have h1:=q_mul q
  rw[<-h1]
  grind
 rw[Int.natAbs_natCast];exact sz_d q
theorem sz_div (p q:Rat):sz (p / q)<=sz p+sz q:=by
 rw[Rat.div_def]
 have:=sz_mul p q⁻¹
 have:=sz_inv q
 omega
theorem sz_sub (p q:Rat):sz (p-q)<=sz p+sz q+1:=by
 rw[Rat.sub_eq_add_neg]
 have:=sz_add p (-q)
 rwa [sz_neg] at this
theorem sz_int (z:Int):sz (z:Rat)<=max (jk z.natAbs) 1:=by
 refine sz_of (a:=z) (b:=1) ah ?_ (Nat.le_max_left ..) (Nat.le_max_right ..)
 rw[show ((1:Int):Rat)=1 from rfl,Rat.mul_one]
end Go.Lens.Un
end
section
namespace Go.Lens.Tb
open Go.Proofs Go.Lens.Un
variable [Lz]
set_option maxRecDepth 100000
attribute [local irreducible] TK PK T RG EfR Body CG
abbrev eN (n:List UInt8):List PV:=[.lit (.string (bsO n))]
def Qn.ofZ (z:Int) (_:R64 z):Qn:=⟨(z:Rat)⟩
theorem Qn.ofZ_q {z:Int} (h:R64 z):(Qn.ofZ z h).q=(z:Rat):=rfl
def frZ:Qn:=⟨0⟩
def cmpQ2 (p q:Rat):Int:=if p<q then -1 else if p=q then 0 else 1
theorem bl63 {n:Nat} (h:jk n<=63):n<=9223372036854775807:=by
 have h1:=Nat.lt_of_lt_of_le (blen_lt n) (Nat.pow_le_pow_right (show 0<2 by decide) h)
 exact Nat.le_of_lt_succ h1
section
variable {x y X Y:Int}
theorem mk_f0 (hx:Sm x) (hy:Sm y) (h0:y≠0):∃ X Y,X=(if y<0 then -x else x)/\Y=(if y<0 then -y else y)/\Sm X/\Sm Y/\0<Y/\(x:Rat) / (y:Rat)=(X:Rat) / (Y:Rat):=by
 refine⟨_,_,rfl,rfl,?_⟩
 by_cases h:y<0
 ·rw[if_pos h,if_pos h]
  refine⟨sm_neg hx,sm_neg hy,aa,?_⟩
  rw[Rat.intCast_neg,Rat.intCast_neg]
  have:=icast_ne h0
  generalize (x:Rat)=a at*
  generalize (y:Rat)=b at*
  grind
 rw[if_neg h,if_neg h]
 exact⟨hx,hy,aa,rfl⟩
theorem mk_x1 (hX:X=(if y<0 then -x else x)) (hY:Y=(if y<0 then -y else y)) (h:jz y<0):X= -x/\Y= -y:=by
 have h:=sgn_neg.1 h
 rw[if_pos h] at hX hY;exact⟨hX,hY⟩
theorem mk_x2 (hX:X=(if y<0 then -x else x)) (hY:Y=(if y<0 then -y else y)) (h:¬jz y<0):X=x/\Y=y:=by
 have h:¬y<0:=fun g=>h (sgn_neg.2 g)
 rw[if_neg h] at hX hY;exact⟨hX,hY⟩
theorem mk_gp (hp:0<Y):0<Nat.gcd X.natAbs Y.natAbs:=Nat.gcd_pos_of_pos_right _ aa
theorem mk_gl (hY:Sm Y) (hp:0<Y):Sm ((Nat.gcd X.natAbs Y.natAbs:Nat):Int):=by
 have:=Nat.le_of_dvd (show 0<Y.natAbs by omega) (Nat.gcd_dvd_right X.natAbs Y.natAbs)
 unfold Sm;omega
theorem mk_g0 (hp:0<Y):((Nat.gcd X.natAbs Y.natAbs:Nat):Int)≠0:=by have:=mk_gp (X:=X) hp;omega
theorem quo_p {z g:Int} (h:0<g):quoI z g=z / g:=by unfold quoI;rw[if_neg aa]
theorem mk_l1 (hp:0<Y) (hq:(x:Rat) / (y:Rat)=(X:Rat) / (Y:Rat)) (h:decide (Y=1)=true):(DV.pv (.agg [pI X,jl,pI Y,jl]))=.pv (.agg [pI (Qn.n (Qn.make x y)),jl,pI (Qn.d (Qn.make x y)),jl]):=by
 unfold Qn.n Qn.d Qn.make
 dsimp only
 have h:=of_decide_eq_true h
 rw[hq,(mk_nd hp).1,(mk_nd hp).2,h]
 show _=DV.pv (.agg [pI (X / ((Nat.gcd X.natAbs 1:Nat):Int)),jl,pI (1 / ((Nat.gcd X.natAbs 1:Nat):Int)),jl])
 rw[Nat.gcd_one_right,show ((1:Nat):Int)=1 from rfl,Int.ediv_one,Int.ediv_one]
theorem mk_l2 (hp:0<Y) (hq:(x:Rat) / (y:Rat)=(X:Rat) / (Y:Rat)):(DV.pv (.agg [pI (quoI X ((Nat.gcd (Int.natAbs X) (Int.natAbs Y):Nat):Int)),jl,pI (quoI Y ((Nat.gcd (Int.natAbs X) (Int.natAbs Y):Nat):Int)),jl]))=.pv (.agg [pI (Qn.n (Qn.make x y)),jl,pI (Qn.d (Qn.make x y)),jl]):=by
 unfold Qn.n Qn.d Qn.make
 dsimp only
 have hg:=mk_gp (X:=X) hp
 rw[hq,(mk_nd hp).1,(mk_nd hp).2,quo_p aa,quo_p aa]
end
section
variable {x y:Qn}
structure AdK (x y:Qn):Prop where
 a:jk x.n.natAbs+jk y.d.natAbs<=62
 b:jk y.n.natAbs+jk x.d.natAbs<=62
 c:jk x.d.natAbs+jk y.d.natAbs<=63
structure MuK (x y:Qn):Prop where
 a:jk x.n.natAbs+jk y.n.natAbs<=63
 b:jk x.d.natAbs+jk y.d.natAbs<=63
structure DvK (x y:Qn):Prop where
 a:jk x.n.natAbs+jk y.d.natAbs<=63
 b:jk x.d.natAbs+jk y.n.natAbs<=63
theorem adK (hs:sz x.q+sz y.q<=62):AdK x y:=by
 have:=x.bn;have:=x.bd;have:=y.bn;have:=y.bd
 constructor<;>omega
theorem muK (hs:sz x.q+sz y.q<=62):MuK x y:=by
 have:=x.bn;have:=x.bd;have:=y.bn;have:=y.bd
 constructor<;>omega
theorem dvK (hs:sz x.q+sz y.q<=62):DvK x y:=by
 have:=x.bn;have:=x.bd;have:=y.bn;have:=y.bd
 constructor<;>omega
theorem f_b {a b:Int}:jk (a*b).natAbs<=jk a.natAbs+jk b.natAbs:=by
 rw[Int.natAbs_mul]
 exact bl_mul _ _
theorem f_l {z:Int} (h:jk z.natAbs<=63):Sm z:=bl63 h
theorem f_s {a b:Int} (ha:jk a.natAbs<=62) (hb:jk b.natAbs<=62):Sm (a+b):=bl63 (qh (bl_mono (Int.natAbs_add_le _ _)) (bl_add ha hb))
theorem f_p {a b:Int} (h:jk a.natAbs+jk b.natAbs<=63):Sm (a*b):=bl63 (qh f_b h)
theorem f_nl (hs:sz x.q<=62):Sm (Qn.n x):=f_l (by have:=x.bn;omega)
theorem f_dl (hs:sz x.q<=62):Sm (Qn.d x):=f_l (by have:=x.bd;omega)
theorem f_lnx (hs:AdK x y):Sm (Qn.n x):=f_l b9
theorem f_ldx (hs:AdK x y):Sm (Qn.d x):=f_l bA
theorem f_lny (hs:AdK x y):Sm (Qn.n y):=f_l bA
theorem f_ldy (hs:AdK x y):Sm (Qn.d y):=f_l b9
theorem f_mnxdy (hs:AdK x y):Sm (Qn.n x*Qn.d y):=f_p b9
theorem f_mnydx (hs:AdK x y):Sm (Qn.n y*Qn.d x):=f_p bA
theorem f_mdxdy (hs:AdK x y):Sm (Qn.d x*Qn.d y):=f_p hs.c
theorem f_a0 (hs:AdK x y):Sm (Qn.n x+Qn.n y):=f_s b9 bA
theorem f_m4 (hs:AdK x y):Sm (Qn.n x*Qn.d y+Qn.n y*Qn.d x):=f_s (qh f_b hs.a) (qh f_b hs.b)
theorem m_lnx (hs:MuK x y):Sm (Qn.n x):=f_l b9
theorem m_ldx (hs:MuK x y):Sm (Qn.d x):=f_l bA
theorem m_lny (hs:MuK x y):Sm (Qn.n y):=f_l b9
theorem m_ldy (hs:MuK x y):Sm (Qn.d y):=f_l bA
theorem eF_of {a b:Qn} (h:a.q=b.q):(DV.pv (.agg [pI (Qn.n a),jl,pI (Qn.d a),jl]))=.pv (.agg [pI (Qn.n b),jl,pI (Qn.d b),jl]):=by
 obtain⟨a⟩:=a
 obtain⟨b⟩:=b
 cases h;rfl
theorem f_a1 (h:(bif (one1 x.d) then (one1 y.d) else false)=true):(DV.pv (.agg [pI (Qn.n (Qn.whole (Qn.n x+Qn.n y))),jl,pI (Qn.d (Qn.whole (Qn.n x+Qn.n y))),jl]))=.pv (.agg [pI (Qn.n (Qn.add x y)),jl,pI (Qn.d (Qn.add x y)),jl]):=by
 have h:one1 x.d=true/\one1 y.d=true:=by cases e:one1 x.d<;>cases g:one1 y.d<;>simp_all
 refine eF_of ?_
 rw[Qn.whole_q,Qn.add_q,Rat.intCast_add,Qn.q_div x,Qn.q_div y,one1_1 h.1,one1_1 h.2,show ((1:Int):Rat)=1 from rfl]
 grind
theorem f_a2:(DV.pv (.agg [pI (Qn.n (Qn.make (Qn.n x*Qn.d y+Qn.n y*Qn.d x) (Qn.d x*Qn.d y))),jl,pI (Qn.d (Qn.make (Qn.n x*Qn.d y+Qn.n y*Qn.d x) (Qn.d x*Qn.d y))),jl]))=.pv (.agg [pI (Qn.n (Qn.add x y)),jl,pI (Qn.d (Qn.add x y)),jl]):=by
 refine eF_of ?_
 unfold Qn.make
 have h1:=x.d_ne
 have h2:=y.d_ne
 rw[Qn.add_q,Qn.q_div x,Qn.q_div y,Rat.intCast_add,Rat.intCast_mul,Rat.intCast_mul,Rat.intCast_mul]
 generalize (x.n:Rat)=a at*
 generalize (x.d:Rat)=b at*
 generalize (y.n:Rat)=c at*
 generalize (y.d:Rat)=d at*
 grind
theorem f_a3:(DV.pv (.agg [pI (Qn.n (Qn.make (Qn.n x*Qn.n y) (Qn.d x*Qn.d y))),jl,pI (Qn.d (Qn.make (Qn.n x*Qn.n y) (Qn.d x*Qn.d y))),jl]))=.pv (.agg [pI (Qn.n (Qn.mul x y)),jl,pI (Qn.d (Qn.mul x y)),jl]):=by
 refine eF_of ?_
 unfold Qn.make
 have h1:=x.d_ne
 have h2:=y.d_ne
 rw[Qn.j6,Qn.q_div x,Qn.q_div y,Rat.intCast_mul,Rat.intCast_mul]
 generalize (x.n:Rat)=a at*
 generalize (x.d:Rat)=b at*
 generalize (y.n:Rat)=c at*
 generalize (y.d:Rat)=d at*
 grind
theorem f_a4 {h:x.q≠0}:(DV.pv (.agg [pI (Qn.n (Qn.make (Qn.d x) (Qn.n x))),jl,pI (Qn.d (Qn.make (Qn.d x) (Qn.n x))),jl]))=.pv (.agg [pI (Qn.n (Qn.inv x h)),jl,pI (Qn.d (Qn.inv x h)),jl]):=by
 refine eF_of ?_
 unfold Qn.make
 have h1:=x.d_ne
 have h2:=icast_ne (Qn.n_ne h)
 rw[Qn.inv_q,Qn.q_div x]
 generalize (x.n:Rat)=a at*
 generalize (x.d:Rat)=b at*
 grind
theorem f_a5 {h:y.q≠0}:(DV.pv (.agg [pI (Qn.n (Qn.mul x (Qn.inv y h))),jl,pI (Qn.d (Qn.mul x (Qn.inv y h))),jl]))=.pv (.agg [pI (Qn.n (Qn.div x y h)),jl,pI (Qn.d (Qn.div x y h)),jl]):=eF_of (by rw[Qn.j6,Qn.inv_q,Qn.div_q,Rat.div_def])
theorem f_a6:(DV.pv (.agg [pI (Qn.n (Qn.add x (Qn.neg y))),jl,pI (Qn.d (Qn.add x (Qn.neg y))),jl]))=.pv (.agg [pI (Qn.n (Qn.sub x y)),jl,pI (Qn.d (Qn.sub x y)),jl]):=eF_of (by rw[Qn.add_q,Qn.neg_q,Qn.sub_q,Rat.sub_eq_add_neg])
theorem f_iv (h:y.q≠0) (hs:DvK x y):MuK x (y.inv h):=by
 have h0:=Qn.n_ne h
 have h1:(y.inv h).q*(y.n:Rat)=(y.d:Rat):=by
  have h2:=icast_ne h0
  have h3:=y.d_ne
  rw[Qn.inv_q,Qn.q_div y]
  generalize (y.n:Rat)=a at*
  generalize (y.d:Rat)=b at*
  grind
 have h2:=nd_of h0 h1
 have ha:=bl_mono h2.1
 have hb:=bl_mono h2.2
 have:=hs.a
 have:=hs.b
 have e:jk (y.inv h).d.natAbs=jk (y.inv h).q.den:=congrArg jk (Int.natAbs_natCast _)
 exact⟨by show jk x.n.natAbs+jk (y.inv h).q.num.natAbs<=63;omega,by rw[e];omega⟩
theorem f_cmp:vI (jz (Qn.n x*Qn.d y-Qn.n y*Qn.d x))=vI (cmpQ2 x.q y.q):=by
 have e1:(x.q<y.q)↔x.n*y.d<y.n*x.d:=by rw[Rat.lt_iff,Qn.q_num,Qn.q_num,Qn.q_den,Qn.q_den]
 have e2:(x.q=y.q)↔x.n*y.d=y.n*x.d:=by
  have h1:=x.d_ne
  have h2:=y.d_ne
  rw[Qn.q_div,Qn.q_div,<-Rat.intCast_inj,Rat.intCast_mul,Rat.intCast_mul]
  generalize (x.n:Rat)=a at*
  generalize (x.d:Rat)=b at*
  generalize (y.n:Rat)=c at*
  generalize (y.d:Rat)=d at*
  constructor
  ·intro h;grind
  intro h;grind
 unfold cmpQ2 jz
 by_cases g:x.q<y.q
 ·rw[if_pos g,if_pos (by have:=e1.1 g;omega)]
 rw[if_neg g,if_neg (fun k=>g (e1.2 aa))]
 by_cases k:x.q=y.q
 ·rw[if_pos k,if_pos (by have:=e2.1 k;omega)]
 rw[if_neg k,if_neg (fun l=>k (e2.2 aa))]
end
def txt (q:Rat):List UInt8:=Lib.itoa q.num++(if q.den=1 then [] else 47::Lib.decDigits q.den)
def longN (n:Nat):Bool:=decide (600<(Lib.decDigits n).length)
def je (q:Rat):Bool:=longN q.num.natAbs||longN q.den
theorem dec_bl (n:Nat):(Lib.decDigits n).length<=jk n+1:=dec_len aa (Nat.lt_of_lt_of_le (blen_lt n) (qh (Nat.pow_le_pow_left (show 2<=10 by decide) _) (Nat.pow_le_pow_right ah aa)))
theorem it_bl (z:Int):(Lib.itoa z).length<=jk z.natAbs+2:=by
 unfold Lib.itoa
 split
 ·have:=dec_bl z.natAbs
  rw[zb];omega
 rw[show z.toNat=z.natAbs by omega]
 have:=dec_bl z.natAbs
 omega
section
variable {x:Qn} {k:Nat}
theorem bl_pow {n s:Nat} (h:jk n<=s) (k:Nat):jk (n ^ k)<=k*s+1:=by
 refine jb ?_
 have h1:=Nat.pow_le_pow_left (Nat.le_of_lt (Nat.lt_of_lt_of_le (blen_lt n) (Nat.pow_le_pow_right (show 0<2 by decide) h))) k
 rw[<-Nat.pow_mul,Nat.mul_comm s k] at h1
 have h2:=Nat.pow_pos (n:=k*s) (show 0<2 by decide)
 rw[Nat.pow_succ];omega
theorem pq_n (h:k*sz x.q<=62) (i:Nat) (hi:i<=k):Sm (Qn.n x ^ i):=by
 unfold Sm
 rw[Int.natAbs_pow]
 exact bl63 (qh (bl_pow x.bn i) bC)
theorem pq_d (h:k*sz x.q<=62) (i:Nat) (hi:i<=k):Sm (Qn.d x ^ i):=by
 unfold Sm
 rw[Int.natAbs_pow]
 exact bl63 (qh (bl_pow x.bd i) bC)
def qnP (x:Qn) (k:Nat):Qn:=⟨x.q ^ k⟩
theorem qnP_q (x:Qn) (k:Nat):(qnP x k).q=x.q ^ k:=rfl
theorem pw_e:(DV.pv (.agg [pI (Qn.n x ^ k),jl,pI (Qn.d x ^ k),jl]))=.pv (.agg [pI (Qn.n (qnP x k)),jl,pI (Qn.d (qnP x k)),jl]):=by
 unfold qnP Qn.n Qn.d
 dsimp only
 rw[Rat.pow_def]
 dsimp only
 first|rfl|rw[Int.natCast_pow]
theorem it_n (h:sz x.q<=62):(Lib.itoa x.n).length<=64:=by
 have:=it_bl x.n
 have:=x.bn
 omega
theorem it_d (h:sz x.q<=62):(Lib.itoa x.d).length<=64:=by
 have:=it_bl x.d
 have:=x.bd
 omega
theorem tx_1 (h:one1 x.d=true):vS (bsO (Lib.itoa (Qn.n x)))=vS (bsO (txt x.q)):=by
 unfold txt
 rw[if_pos (Qn.q_one.1 h),zS];rfl
theorem tx_2 (h:one1 x.d=false):vS (bsO ((Lib.itoa (Qn.n x)++[47])++Lib.itoa (Qn.d x)))=vS (bsO (txt x.q)):=by
 unfold txt
 have hp:=x.pos
 rw[if_neg (fun e=>by rw[Qn.q_one.2 e] at h;cases h)]
 have e1:Lib.itoa (Qn.d x)=Lib.decDigits x.q.den:=by
  unfold Lib.itoa
  rw[if_neg aa]
  rfl
 rw[e1,z8];rfl
theorem lg_0 {n:Nat} (h:n<=9223372036854775807):longN n=false:=by
 unfold longN
 have:=dec_len (n:=n) (k:=19) ah (Nat.lt_of_le_of_lt h ah)
 exact zk aa
theorem lg_d {z:Int} {p:Prop} (h:Sm z) (e:decide ((1800:Int)<((jk z.natAbs:Nat):Int))=true):p:=by
 have e:=of_decide_eq_true e
 have:=bt_b (x:=z.natAbs) be
 omega
theorem lg_1 {z:Int} (h:Sm z):vB false=vB (longN z.natAbs):=by rw[lg_0 h]
theorem lg_2:vB (bif (longN (Int.natAbs (Qn.n x))) then true else (longN (Int.natAbs (Qn.d x))))=vB (je x.q):=by
 unfold je
 show vB (bif longN x.n.natAbs then true else longN x.d.natAbs)=vB (longN x.n.natAbs||longN x.d.natAbs)
 cases longN x.n.natAbs<;>rfl
end
theorem ag156:aggT tab 156=some true:=ae
theorem fa156_1:fadQ tab 156 1=some 2:=ae
theorem kr:szT tab 156=some 4:=ae
theorem w179 (x y:Int) (hx:Sm x) (hy:Sm y) (h0:y≠0):CKa 179 [.pv (.agg [pI x,.lit (.slice none 0 0)]),.pv (.agg [pI y,.lit (.slice none 0 0)])] (.pv (.agg [pI (Qn.n (Qn.make x y)),.lit (.slice none 0 0),pI (Qn.d (Qn.make x y)),.lit (.slice none 0 0)])):=by
 refine cG qf179 Z (nB Z) Z (E Z (B.ja Z (fun l=>Frz.jU l Z) Z) ?_)
 obtain⟨X,Y,heX,heY,hX,hY,hp,hq⟩:=mk_f0 hx hy h0
 refine C Z (w212 y) Z Z Z (Cj [(2,.bref 3 0),(3,.bref 4 0),(4,.bref 5 0)] [(3,.box 154 [vI X,.pv (.lit (.slice none 0 0))]),(4,.box 154 [vI Y,.pv (.lit (.slice none 0 0))]),(5,.box 156 [vI 0,.pv (.lit (.slice none 0 0)),vI 0,.pv (.lit (.slice none 0 0))])] Z Z Z (fun h1=>?_) (fun h1=>?_) ?_)
 ·replace h1:=of_decide_eq_true h1
  refine C Z (w192 x hx) Z Z Z (C Z (w192 y hy) Z Z Z (Dr Z ae (pk Z ?_)))
  show Sub _ _ _
  first|(rw[(mk_x1 heX heY ab).1,(mk_x1 heX heY ab).2])|(rw[(mk_x2 heX heY ab).1,(mk_x2 heX heY ab).2])
  exact sb Z Z rfl
 ·replace h1:=of_decide_eq_false h1
  refine pk Z ?_
  show Sub _ _ _
  first|(rw[(mk_x1 heX heY ab).1,(mk_x1 heX heY ab).2])|(rw[(mk_x2 heX heY ab).1,(mk_x2 heX heY ab).2])
  exact sb Z Z rfl
 refine E Z (B.run Z) (Et Z Z (B.fadB Z fa154_0 Z) (Et Z Z (B.kJ Z Z Z ag3 sz3 Z) (Et Z Z (B.eql Z Z) (E Z (B.pick Z Z Z Z Z (pick_tt _)) (Cb Z Z (fun h2=>?_) (fun h2=>?_))))))
 ·refine E Z (B.run (val:=.pv (.agg [pI X,.lit (.slice none 0 0),pI Y,.lit (.slice none 0 0)])) (m:=[]) (rd:=[]) ae) ?_
  refine Rt Z ?_
  exact leaf (val0:=.pv (.agg [pI X,.lit (.slice none 0 0),pI Y,.lit (.slice none 0 0)])) ae bD
 refine C Z (w188 X Y hX hY) Z Z Z (E Z (B.ja Z (fun l=>Frz.jU l Z) Z) (C Z (w230 X ((Nat.gcd (Int.natAbs X) (Int.natAbs Y):Nat):Int) hX (mk_gl hY hp) (mk_g0 hp)) Z Z Z (C Z (w230 Y ((Nat.gcd (Int.natAbs X) (Int.natAbs Y):Nat):Int) hY (mk_gl hY hp) (mk_g0 hp)) Z Z Z (E Z (B.run (val:=.pv (.agg [pI (quoI X ((Nat.gcd (Int.natAbs X) (Int.natAbs Y):Nat):Int)),.lit (.slice none 0 0),pI (quoI Y ((Nat.gcd (Int.natAbs X) (Int.natAbs Y):Nat):Int)),.lit (.slice none 0 0)])) (m:=[]) (rd:=[]) ae) (Dr Z ae ?_)))))
 refine Rt Z ?_
 exact leaf (val0:=.pv (.agg [pI (quoI X ((Nat.gcd (Int.natAbs X) (Int.natAbs Y):Nat):Int)),.lit (.slice none 0 0),pI (quoI Y ((Nat.gcd (Int.natAbs X) (Int.natAbs Y):Nat):Int)),.lit (.slice none 0 0)])) ae bD
theorem w176 (n:Int):CKa 176 [.pv (.agg [pI n,.lit (.slice none 0 0)])] (.pv (.agg [pI (Qn.n (Qn.whole n)),.lit (.slice none 0 0),pI (Qn.d (Qn.whole n)),.lit (.slice none 0 0)])):=by
 refine cG qf176 Z (nB Z) Z (E Z (B.ja Z (fun l=>Frz.jU l Z) Z) (C Z (w177 1) Z Z Z (E Z (B.run (val:=.pv (.agg [pI n,.lit (.slice none 0 0),pI 1,.lit (.slice none 0 0)])) (m:=[]) (rd:=[]) ae) (Dr Z ae ?_))))
 refine Rt Z ?_
 exact leaf (val0:=.pv (.agg [pI n,.lit (.slice none 0 0),pI 1,.lit (.slice none 0 0)])) ae bi
theorem w100 (z:Int) (h:R64 z):CKa 100 [vI z] (.pv (.agg [pI (Qn.n (Qn.ofZ z h)),.lit (.slice none 0 0),pI (Qn.d (Qn.ofZ z h)),.lit (.slice none 0 0)])):=by
 refine cG qf100 Z (nB Z) Z (E Z (B.ja Z (fun l=>Frz.jU l Z) Z) (C Z (w177 z) Z Z Z (C Z (w176 z) Z Z Z ?_)))
 refine Rt Z ?_
 exact leaf (val0:=.pv (.agg [pI (Qn.n (Qn.whole z)),.lit (.slice none 0 0),pI (Qn.d (Qn.whole z)),.lit (.slice none 0 0)])) ae bi
theorem w145 (x:Qn) (_:sz (Qn.q x)<=62):CKa 145 [.pv (.agg [pI (Qn.n x),.lit (.slice none 0 0),pI (Qn.d x),.lit (.slice none 0 0)])] (vI (jz x.q.num)):=by
 refine cG qf145 Z (nB Z) Z (C Z (w212 (Qn.n x)) Z Z Z ?_)
 refine Rt Z ?_
 exact leaf (val0:=vI (jz (Qn.n x))) ae bi
theorem w197 (x:Qn):CKa 197 [.pv (.agg [pI (Qn.n x),.lit (.slice none 0 0),pI (Qn.d x),.lit (.slice none 0 0)])] (vB (one1 (Qn.d x))):=by
 refine cG qf197 Z (nB Z) Z (E Z (B.run Z) (Et Z Z (B.fadB Z fa156_1 Z) (Et Z Z (B.fadB Z fa154_0 Z) (Et Z Z (B.kJ Z Z Z ag3 sz3 Z) (Et Z Z (B.eql Z Z) (E Z (B.pick Z Z Z Z Z (pick_tt _)) ?_))))))
 refine Rt Z ?_
 exact leaf (val0:=vB (bif true then (decide ((Qn.d x)=1)) else false)) ae bi
theorem w118 (x:Qn) (hs:sz (Qn.q x)<=62):CKa 118 [.pv (.agg [pI (Qn.n x),.lit (.slice none 0 0),pI (Qn.d x),.lit (.slice none 0 0)])] (.pv (.agg [pI (Qn.n (Qn.neg x)),.lit (.slice none 0 0),pI (Qn.d (Qn.neg x)),.lit (.slice none 0 0)])):=by
 refine cG qf118 Z (nB Z) Z (E Z (B.ja Z (fun l=>Frz.jU l Z) Z) (C Z (w192 (Qn.n x) (f_nl hs)) Z Z Z (E Z (B.run (val:=.pv (.agg [pI (-(Qn.n x)),.lit (.slice none 0 0),pI (Qn.d x),.lit (.slice none 0 0)])) (m:=[]) (rd:=[]) ae) (Dr Z ae ?_))))
 refine Rt Z ?_
 exact leaf (val0:=.pv (.agg [pI (-(Qn.n x)),.lit (.slice none 0 0),pI (Qn.d x),.lit (.slice none 0 0)])) ae bi
theorem w125x (x y:Qn) (hs:AdK x y):CKa 125 [.pv (.agg [pI (Qn.n x),.lit (.slice none 0 0),pI (Qn.d x),.lit (.slice none 0 0)]),.pv (.agg [pI (Qn.n y),.lit (.slice none 0 0),pI (Qn.d y),.lit (.slice none 0 0)])] (.pv (.agg [pI (Qn.n (Qn.add x y)),.lit (.slice none 0 0),pI (Qn.d (Qn.add x y)),.lit (.slice none 0 0)])):=by
 refine cG qf125 Z (nB Z) Z (E Z (B.ja Z (fun l=>Frz.jU l Z) Z) (C Z (w197 x) Z Z Z (Eg Z Z (fun hc=>B.loadBA Z Z Z ag156 kr Z Z) Z (Eg Z Z (fun hc=>B.call (w197 y) Z (ds1 (qz Z hc)) Z) Z (E Z (B.pick Z Z Z (gdB Z) Z (q0 _)) (Cb Z Z (fun h1=>?_) (fun h1=>?_)))))))
 ·refine C Z (w198 (Qn.n x) (Qn.n y) (f_lnx hs) (f_lny hs) (f_a0 hs)) Z Z Z (C Z (w176 ((Qn.n x)+(Qn.n y))) Z Z Z ?_)
  refine Rt Z ?_
  exact leaf (val0:=.pv (.agg [pI (Qn.n (Qn.whole ((Qn.n x)+(Qn.n y)))),.lit (.slice none 0 0),pI (Qn.d (Qn.whole ((Qn.n x)+(Qn.n y)))),.lit (.slice none 0 0)])) ae (by first|exact f_a1 h1|exact f_a2)
 refine C Z (w199 (Qn.n x) (Qn.d y) (f_lnx hs) (f_ldy hs) (f_mnxdy hs)) Z Z Z (C Z (w199 (Qn.n y) (Qn.d x) (f_lny hs) (f_ldx hs) (f_mnydx hs)) Z Z Z (C Z (w198 ((Qn.n x)*(Qn.d y)) ((Qn.n y)*(Qn.d x)) (f_mnxdy hs) (f_mnydx hs) (f_m4 hs)) Z Z Z (C Z (w199 (Qn.d x) (Qn.d y) (f_ldx hs) (f_ldy hs) (f_mdxdy hs)) Z Z Z (C Z (w179 (((Qn.n x)*(Qn.d y))+((Qn.n y)*(Qn.d x))) ((Qn.d x)*(Qn.d y)) (f_m4 hs) (f_mdxdy hs) (Int.ne_of_gt (Int.mul_pos x.pos y.pos))) Z Z Z (Dr Z ae ?_)))))
 refine Rt Z ?_
 exact leaf (val0:=.pv (.agg [pI (Qn.n (Qn.make (((Qn.n x)*(Qn.d y))+((Qn.n y)*(Qn.d x))) ((Qn.d x)*(Qn.d y)))),.lit (.slice none 0 0),pI (Qn.d (Qn.make (((Qn.n x)*(Qn.d y))+((Qn.n y)*(Qn.d x))) ((Qn.d x)*(Qn.d y)))),.lit (.slice none 0 0)])) ae (by first|exact f_a1 h1|exact f_a2)
theorem w125 (x y:Qn) (hs:sz (Qn.q x)+sz (Qn.q y)<=62):CKa 125 [.pv (.agg [pI (Qn.n x),.lit (.slice none 0 0),pI (Qn.d x),.lit (.slice none 0 0)]),.pv (.agg [pI (Qn.n y),.lit (.slice none 0 0),pI (Qn.d y),.lit (.slice none 0 0)])] (.pv (.agg [pI (Qn.n (Qn.add x y)),.lit (.slice none 0 0),pI (Qn.d (Qn.add x y)),.lit (.slice none 0 0)])):=w125x x y (adK hs)
theorem w126x (x y:Qn) (hs:MuK x y):CKa 126 [.pv (.agg [pI (Qn.n x),.lit (.slice none 0 0),pI (Qn.d x),.lit (.slice none 0 0)]),.pv (.agg [pI (Qn.n y),.lit (.slice none 0 0),pI (Qn.d y),.lit (.slice none 0 0)])] (.pv (.agg [pI (Qn.n (Qn.mul x y)),.lit (.slice none 0 0),pI (Qn.d (Qn.mul x y)),.lit (.slice none 0 0)])):=by
 refine cG qf126 Z (nB Z) Z (E Z (B.ja Z (fun l=>Frz.jU l Z) Z) (C Z (w199 (Qn.n x) (Qn.n y) (m_lnx hs) (m_lny hs) (f_p hs.a)) Z Z Z (C Z (w199 (Qn.d x) (Qn.d y) (m_ldx hs) (m_ldy hs) (f_p hs.b)) Z Z Z (C Z (w179 ((Qn.n x)*(Qn.n y)) ((Qn.d x)*(Qn.d y)) (f_p hs.a) (f_p hs.b) (Int.ne_of_gt (Int.mul_pos x.pos y.pos))) Z Z Z (Dr Z ae ?_)))))
 refine Rt Z ?_
 exact leaf (val0:=.pv (.agg [pI (Qn.n (Qn.make ((Qn.n x)*(Qn.n y)) ((Qn.d x)*(Qn.d y)))),.lit (.slice none 0 0),pI (Qn.d (Qn.make ((Qn.n x)*(Qn.n y)) ((Qn.d x)*(Qn.d y)))),.lit (.slice none 0 0)])) ae (by exact f_a3)
theorem w126 (x y:Qn) (hs:sz (Qn.q x)+sz (Qn.q y)<=62):CKa 126 [.pv (.agg [pI (Qn.n x),.lit (.slice none 0 0),pI (Qn.d x),.lit (.slice none 0 0)]),.pv (.agg [pI (Qn.n y),.lit (.slice none 0 0),pI (Qn.d y),.lit (.slice none 0 0)])] (.pv (.agg [pI (Qn.n (Qn.mul x y)),.lit (.slice none 0 0),pI (Qn.d (Qn.mul x y)),.lit (.slice none 0 0)])):=w126x x y (muK hs)
theorem w200 (x:Qn) (h1:Sm (Qn.d x)) (h2:Sm (Qn.n x)) (h:x.q≠0):CKa 200 [.pv (.agg [pI (Qn.n x),.lit (.slice none 0 0),pI (Qn.d x),.lit (.slice none 0 0)])] (.pv (.agg [pI (Qn.n (Qn.inv x h)),.lit (.slice none 0 0),pI (Qn.d (Qn.inv x h)),.lit (.slice none 0 0)])):=by
 refine cG qf200 Z (nB Z) Z (E Z (B.ja Z (fun l=>Frz.jU l Z) Z) (C Z (w179 (Qn.d x) (Qn.n x) h1 h2 (Qn.n_ne h)) Z Z Z ?_))
 refine Rt Z ?_
 exact leaf (val0:=.pv (.agg [pI (Qn.n (Qn.make (Qn.d x) (Qn.n x))),.lit (.slice none 0 0),pI (Qn.d (Qn.make (Qn.d x) (Qn.n x))),.lit (.slice none 0 0)])) ae (by exact f_a4)
theorem w128x (x y:Qn) (hs:DvK x y) (h:y.q≠0):CKa 128 [.pv (.agg [pI (Qn.n x),.lit (.slice none 0 0),pI (Qn.d x),.lit (.slice none 0 0)]),.pv (.agg [pI (Qn.n y),.lit (.slice none 0 0),pI (Qn.d y),.lit (.slice none 0 0)])] (.pv (.agg [pI (Qn.n (Qn.div x y h)),.lit (.slice none 0 0),pI (Qn.d (Qn.div x y h)),.lit (.slice none 0 0)])):=by
 refine cG qf128 Z (nB Z) Z (E Z (B.ja Z (fun l=>Frz.jU l Z) Z) (C Z (w200 y (f_l b9) (f_l bA) h) Z Z Z (C Z (w126x x (Qn.inv y h) (f_iv h hs)) Z Z Z (Dr Z ae ?_))))
 refine Rt Z ?_
 exact leaf (val0:=.pv (.agg [pI (Qn.n (Qn.mul x (Qn.inv y h))),.lit (.slice none 0 0),pI (Qn.d (Qn.mul x (Qn.inv y h))),.lit (.slice none 0 0)])) ae (by exact f_a5)
theorem w128 (x y:Qn) (hs:sz (Qn.q x)+sz (Qn.q y)<=62) (h:y.q≠0):CKa 128 [.pv (.agg [pI (Qn.n x),.lit (.slice none 0 0),pI (Qn.d x),.lit (.slice none 0 0)]),.pv (.agg [pI (Qn.n y),.lit (.slice none 0 0),pI (Qn.d y),.lit (.slice none 0 0)])] (.pv (.agg [pI (Qn.n (Qn.div x y h)),.lit (.slice none 0 0),pI (Qn.d (Qn.div x y h)),.lit (.slice none 0 0)])):=w128x x y (dvK hs) h
theorem w166 (x y:Qn) (hs:sz (Qn.q x)+sz (Qn.q y)<=62):CKa 166 [.pv (.agg [pI (Qn.n x),.lit (.slice none 0 0),pI (Qn.d x),.lit (.slice none 0 0)]),.pv (.agg [pI (Qn.n y),.lit (.slice none 0 0),pI (Qn.d y),.lit (.slice none 0 0)])] (vI (cmpQ2 x.q y.q)):=by
 refine cG qf166 Z (nB Z) Z (C Z (w199 (Qn.n x) (Qn.d y) (f_lnx (adK hs)) (f_ldy (adK hs)) (f_mnxdy (adK hs))) Z Z Z (C Z (w199 (Qn.n y) (Qn.d x) (f_lny (adK hs)) (f_ldx (adK hs)) (f_mnydx (adK hs))) Z Z Z (C Z (w190 ((Qn.n x)*(Qn.d y)) ((Qn.n y)*(Qn.d x))) Z Z Z (Dr Z ae ?_))))
 refine Rt Z ?_
 exact leaf (val0:=vI (jz (((Qn.n x)*(Qn.d y))-((Qn.n y)*(Qn.d x))))) ae (by exact f_cmp)
theorem w210 (x y:Qn) (hs:sz (Qn.q x)+sz (Qn.q y)<=62):CKa 210 [.pv (.agg [pI (Qn.n x),.lit (.slice none 0 0),pI (Qn.d x),.lit (.slice none 0 0)]),.pv (.agg [pI (Qn.n y),.lit (.slice none 0 0),pI (Qn.d y),.lit (.slice none 0 0)])] (.pv (.agg [pI (Qn.n (Qn.sub x y)),.lit (.slice none 0 0),pI (Qn.d (Qn.sub x y)),.lit (.slice none 0 0)])):=by
 refine cG qf210 Z (nB Z) Z (E Z (B.ja Z (fun l=>Frz.jU l Z) Z) (C Z (w118 y aa) Z Z Z (C Z (w125 x (Qn.neg y) (by rw[Qn.neg_q,sz_neg];exact hs)) Z Z Z (Dr Z ae ?_))))
 refine Rt Z ?_
 exact leaf (val0:=.pv (.agg [pI (Qn.n (Qn.add x (Qn.neg y))),.lit (.slice none 0 0),pI (Qn.d (Qn.add x (Qn.neg y))),.lit (.slice none 0 0)])) ae (by exact f_a6)
theorem w191 (x:Qn) (k:Nat) (hs:k*sz x.q<=62) (hk:k<9223372036854775808):CKa 191 [.pv (.agg [pI (Qn.n x),.lit (.slice none 0 0),pI (Qn.d x),.lit (.slice none 0 0)]),vI ((k:Nat):Int)] (.pv (.agg [pI (Qn.n (qnP x k)),.lit (.slice none 0 0),pI (Qn.d (qnP x k)),.lit (.slice none 0 0)])):=by
 refine cG qf191 Z (nB Z) Z (E Z (B.ja Z (fun l=>Frz.jU l Z) Z) (C Z (w245 (Qn.n x) k (pq_n hs) hk) Z Z Z (C Z (w245 (Qn.d x) k (pq_d hs) hk) Z Z Z (E Z (B.run (val:=.pv (.agg [pI ((Qn.n x) ^ k),.lit (.slice none 0 0),pI ((Qn.d x) ^ k),.lit (.slice none 0 0)])) (m:=[]) (rd:=[]) ae) (Dr Z ae ?_)))))
 refine Rt Z ?_
 exact leaf (val0:=.pv (.agg [pI ((Qn.n x) ^ k),.lit (.slice none 0 0),pI ((Qn.d x) ^ k),.lit (.slice none 0 0)])) ae (by exact pw_e)
theorem w162 (hp:qX) (x:Qn) (hs:sz x.q<=62):CKa 162 [.pv (.agg [pI (Qn.n x),.lit (.slice none 0 0),pI (Qn.d x),.lit (.slice none 0 0)])] (vS (bsO (txt x.q))):=by
 refine cG qf162 Z (nB Z) Z (C Z (w197 x) Z Z Z (Cb Z Z (fun h1=>?_) (fun h1=>?_)))
 ·refine C Z (w222 hp (Qn.n x) (f_nl hs)) Z Z Z ?_
  refine Rt Z ?_
  exact leaf (val0:=vS (bsO (Lib.itoa (Qn.n x)))) ae bE
 refine C Z (w222 hp (Qn.n x) (f_nl hs)) Z Z Z (E Z (B.catB (a:=(Lib.itoa (Qn.n x))) (b:=[47]) Z Z bF) (C Z (w222 hp (Qn.d x) (f_dl hs)) Z Z Z (E Z (B.catB (a:=((Lib.itoa (Qn.n x))++[47])) (b:=(Lib.itoa (Qn.d x))) Z Z bF) (Dr Z ae ?_))))
 refine Rt Z ?_
 exact leaf (val0:=vS (bsO (((Lib.itoa (Qn.n x))++[47])++(Lib.itoa (Qn.d x))))) ae bE
theorem w236 (x:Int) (hx:Sm x):CKa 236 [.pv (.agg [pI x,.lit (.slice none 0 0)])] (vB (longN (Int.natAbs x))):=by
 refine cG qf236 Z (nB Z) Z (C Z (w275 x hx) Z Z Z ?_)
 refine ek Z ?_
 cases h1:(decide (1800<(((jk (Int.natAbs x)):Nat):Int)))
 ·refine Ef' Z Z (Ef' Z Z (Ef' Z Z (Ef' Z Z (Ef' Z Z (E Z (B.pkF Z Z Z Z Z) ?_)))))
  refine Rt Z ?_
  exact leaf (val0:=vB false) ae (by exact lg_1 hx)
 exact lg_d hx h1
theorem w181 (x:Qn) (hs:sz x.q<=62):CKa 181 [.pv (.agg [pI (Qn.n x),.lit (.slice none 0 0),pI (Qn.d x),.lit (.slice none 0 0)])] (vB (je x.q)):=by
 refine cG qf181 Z (nB Z) Z (C Z (w236 (Qn.n x) (f_nl hs)) Z Z Z (Eg Z Z (fun hc=>B.fadB Z fa156_1 Z) Z (Eg Z Z (fun hc=>B.loadBA (qz Z hc) Z Z ag154 sz154 Z Z) Z (Eg Z Z (fun hc=>B.call (w236 (Qn.d x) (f_dl hs)) Z (ds1 (qz Z hc)) Z) Z (E Z (B.pick Z Z Z Z (gdB Z) (jj _)) ?_)))))
 refine Rt Z ?_
 exact leaf (val0:=vB (bif (longN (Int.natAbs (Qn.n x))) then true else (longN (Int.natAbs (Qn.d x))))) ae (by exact lg_2)
end Go.Lens.Tb
end
section
namespace Go.Proofs
open Go.Shelf
def Tryz.lays160_ren:Go.Shelf.Ren:=⟨fun|160=>239|232=>279|231=>278|227=>280|234=>282|233=>281|236=>284|235=>283|228=>314|271=>317|151=>316|197=>315|120=>339|152=>338|260=>337|137=>349|119=>350|224=>312|225=>311|217=>310|266=>335|n=>n,fun|9=>9|4=>4|3=>3|5=>5|117=>332|116=>331|0=>0|124=>335|21=>21|105=>355|46=>275|119=>392|139=>395|138=>394|n=>n,fun|3=>7|4=>8|n=>n⟩
theorem Tryz.lays160:Go.Proofs.Lays.n160 Tryz.prog Tryz.lays160_ren:={
  mixed:=ae
  f119:=Tryz.func350.trans (congrArg some ae)
  f120:=Tryz.func339.trans (congrArg some ae)
  f137:=Tryz.func349.trans (congrArg some ae)
  f151:=Tryz.func316.trans (congrArg some ae)
  f152:=Tryz.func338.trans (congrArg some ae)
  f160:=Tryz.func239.trans (congrArg some ae)
  f197:=Tryz.func315.trans (congrArg some ae)
  f217:=Tryz.func310.trans (congrArg some ae)
  f224:=Tryz.func312.trans (congrArg some ae)
  f225:=Tryz.func311.trans (congrArg some ae)
  f227:=Tryz.func280.trans (congrArg some ae)
  f228:=Tryz.func314.trans (congrArg some ae)
  f231:=Tryz.func278.trans (congrArg some ae)
  f232:=Tryz.func279.trans (congrArg some ae)
  f233:=Tryz.func281.trans (congrArg some ae)
  f234:=Tryz.func282.trans (congrArg some ae)
  f235:=Tryz.func283.trans (congrArg some ae)
  f236:=Tryz.func284.trans (congrArg some ae)
  f260:=Tryz.func337.trans (congrArg some ae)
  f266:=Tryz.func335.trans (congrArg some ae)
  f271:=Tryz.func317.trans (congrArg some ae)
  t0:=Tryz.underlying0
  a0:=Tryz.isAgg0
  z0:=Tryz.sizeOf0
  v0:=Tryz.zeroValue0
  t3:=Tryz.underlying3
  a3:=Tryz.isAgg3
  z3:=Tryz.sizeOf3
  v3:=Tryz.zeroValue3
  t4:=Tryz.underlying4
  a4:=Tryz.isAgg4
  z4:=Tryz.sizeOf4
  v4:=Tryz.zeroValue4
  t5:=Tryz.underlying5
  a5:=Tryz.isAgg5
  z5:=Tryz.sizeOf5
  v5:=Tryz.zeroValue5
  t9:=Tryz.underlying9
  a9:=Tryz.isAgg9
  z9:=Tryz.sizeOf9
  v9:=Tryz.zeroValue9
  t21:=Tryz.underlying21
  a21:=Tryz.isAgg21
  z21:=Tryz.sizeOf21
  v21:=Tryz.zeroValue21
  t46:=Tryz.underlying275
  a46:=Tryz.isAgg275
  z46:=Tryz.sizeOf275
  v46:=Tryz.zeroValue275
  t105:=Tryz.underlying355
  a105:=Tryz.isAgg355
  z105:=Tryz.sizeOf355
  v105:=Tryz.zeroValue355
  t116:=Tryz.underlying331
  a116:=Tryz.isAgg331
  z116:=Tryz.sizeOf331
  t117:=Tryz.underlying332
  a117:=Tryz.isAgg332
  z117:=Tryz.sizeOf332
  v117:=Tryz.zeroValue332
  t119:=Tryz.underlying392
  a119:=Tryz.isAgg392
  z119:=Tryz.sizeOf392
  t124:=Tryz.underlying335
  a124:=Tryz.isAgg335
  z124:=Tryz.sizeOf335
  v124:=Tryz.zeroValue335
  t138:=Tryz.underlying394
  a138:=Tryz.isAgg394
  z138:=Tryz.sizeOf394
  v138:=Tryz.zeroValue394
  t139:=Tryz.underlying395
  a139:=Tryz.isAgg395
  z139:=Tryz.sizeOf395
  v139:=Tryz.zeroValue395
  g3:=ae
  g4:=by kernel_rfl }
theorem Tryz.strings_Trim (s cutset:ByteArray) (w:World) (hs:s.size<=9223372036854775807) (hcs:cutset.size<4294967281) (hascii:∀ (j:Nat) b,cutset.data.toList[j]? =some b->b.toNat<128) :
    Calls Tryz.prog 239 #[.string s,.string cutset] w fun e w'=>e=.returned (.string ⟨(Lib.trimS s.data.toList cutset.data.toList).toArray⟩)/\Go.RowKit.Below w.heap.size w w':=Any.strings_Trim_laid Tryz.lays160 ae s cutset w hs hcs hascii
end Go.Proofs
end
section
namespace Go.Lens.Un
def ko:List UInt8:=[48,49,50,51,52,53,54,55,56,57]
theorem digs_mem {c:UInt8}:ko.contains c=true↔48<=c.toNat/\c.toNat<=57:=by
 have key:∀ n:Fin 256,ko.contains (UInt8.ofNat n.val)=decide (48<=n.val/\n.val<=57):=by decide +kernel
 have h:=key ⟨c.toNat,UInt8.toNat_lt c⟩
 rw[UInt8.ofNat_toNat] at h
 rw[h,zf]
theorem dwn {p:UInt8->Bool}:∀ {l:List UInt8},l.dropWhile p=[]↔∀ x∈l,p x=true:=by
 intro l
 induction l with
 | nil=>simp
 | cons a l ih=>
  rw[List.dropWhile_cons]
  cases h:p a
  ·simp[h]
  simp[h,ih]
theorem trim_nil {s:List UInt8}:Lib.trimS s ko=[]↔Dgs s:=by
 unfold Lib.trimS Lib.trimLeftS Lib.trimRightS
 constructor
 ·intro h
  have h1:∀ x∈(s.reverse.dropWhile (ko.contains ·)).reverse,ko.contains x=true:=by
   intro x hx
   have:=dwn.1 h x hx
   exact this
  have h2:s.reverse.dropWhile (ko.contains ·)=[]:=by
   cases e:s.reverse.dropWhile (ko.contains ·) with
   | nil=>rfl
   | cons a l=>
    exfalso
    have h3:=h1 a aP
    have h4:=List.head?_dropWhile_not (ko.contains ·) s.reverse
    rw[e] at h4
    simp only[List.head?_cons] at h4
    rw[h3] at h4
    cases h4
  intro c hc
  exact digs_mem.1 (dwn.1 h2 c (List.mem_reverse.2 hc))
 intro h
 have h2:s.reverse.dropWhile (ko.contains ·)=[]:=dwn.2 fun c hc=>digs_mem.2 (h c (List.mem_reverse.1 hc))
 rw[h2];rfl
def canoB (s:List UInt8):Bool:=decide (s≠[])&&decide (Lib.trimS s ko=[])&&(decide (s.head?≠some 48)||decide (s=[48]))
theorem canoB_iff {s:List UInt8}:canoB s=true↔Cano s:=by
 unfold canoB Cano
 simp only[zj,Bool.or_eq_true,zf,trim_nil]
 constructor
 ·rintro⟨⟨h1,h2⟩,h3⟩
  refine⟨h2,h1,fun e=>?_⟩
  rcases h3 with h3|h3
  ·exact absurd e h3
  rw[h3];rfl
 rintro⟨h1,h2,h3⟩
 refine⟨⟨h2,h1⟩,?_⟩
 by_cases e:s.head? =some 48
 ·right
  cases s with
  | nil=>exact absurd Z h2
  | cons c l=>
   have:=h3 e
   have hl:l=[]:=List.length_eq_zero_iff.1 aT
   have hc:c=48:=by simpa using e
   rw[hl,hc]
 exact .inl e
def q8 (s:List UInt8):List UInt8×List UInt8×Bool:=if 0<=Lib.indexByte s 47 then (s.take (Lib.indexByte s 47).toNat,s.drop ((Lib.indexByte s 47).toNat+1),true) else (s,[],false)
theorem idx_le:∀ (s:List UInt8) (c:UInt8),Lib.indexByte s c<s.length:=by
 intro s c
 induction s with
 | nil=>show (-1:Int)<0;decide
 | cons a s ih=>
  unfold Lib.indexByte
  rw[zb]
  split
  ·omega
  split
  ·omega
  omega
end Go.Lens.Un
end
section
namespace Go.Lens.Tb
open Go.Proofs Go.Lens.Un
variable [Lz] [Dn]
set_option maxRecDepth 100000
attribute [local irreducible] TK PK T RG EfR Body CG
theorem w335 (s:List UInt8):CKa 335 [vS (bsO s),.pv (.lit (.int .u8 47))] (vI (Lib.indexByte s 47)):=by
 have he:∀ vs w,(callFunc 335 vs).run Tryz.prog w=((Extern.BytealgIndexByte.indexByte vs).run Tryz.prog w).andThen fun v w'=>.ok (.value v) w':=fun vs w=>run_callFunc_extern Tryz.func335 ae ae ae ae vs w
 refine⟨fun k hk=>by simp[DV.qP,DV.refs] at hk,fun G w vs M hv=>.inr ?_⟩
 obtain⟨v,v',rfl,hv,hv'⟩:=hv.two
 obtain⟨rfl,_⟩:=qA hv
 obtain⟨rfl,_⟩:=qA hv'
 exact⟨_,w,by rw[he,Lib.run_indexByteString];rfl,G,qH M.ctx (qL Z) ak⟩
theorem w239 (s:List UInt8) (hs:s.length<=1000000000):CKa 239 [vS (bsO s),vS (bsO [48,49,50,51,52,53,54,55,56,57])] (vS (bsO (Lib.trimS s ko))):=by
 refine⟨fun k hk=>by simp[DV.qP,DV.refs] at hk,fun G w vs M hv=>.inl ?_⟩
 obtain⟨v,v2,rfl,h1,h2⟩:=hv.two
 obtain⟨rfl,_⟩:=qA h1
 obtain⟨rfl,_⟩:=qA h2
 refine⟨Tryz.call239 _ _,Calls.mono (Tryz.strings_Trim (bsO s) (bsO ko) w (by show s.length<=_;omega) (by show ko.length<_;decide) (ascii_of_all ah)) ?_⟩
 rintro e w' ⟨rfl,hB⟩
 exact⟨_,rfl,G,ki M.ctx hB.os hB.tape hB.output hB.size (fun k hk=>hB.block k hk) (qL Z) ak Dn.no⟩
section
variable {s:List UInt8}
theorem ix_0 (h:(bif false then true else decide ([47]=s))=true):0=Lib.indexByte s 47:=by
 have:[47]=s:=of_decide_eq_true h
 subst this;rfl
theorem ct_1 (h:0<=Lib.indexByte s 47):List.take (Int.toNat (Lib.indexByte s 47)) s=(q8 s).1:=by unfold q8;rw[if_pos h]
theorem ct_2 (h:0<=Lib.indexByte s 47):List.drop (Int.toNat (Lib.indexByte s 47+1)) s=(q8 s).2.1:=by
 unfold q8;rw[if_pos h,show (Lib.indexByte s 47+1).toNat=(Lib.indexByte s 47).toNat+1 by omega]
theorem ct_3 (h:0<=Lib.indexByte s 47):true=(q8 s).2.2:=by unfold q8;rw[if_pos h]
theorem ct_4 (h:¬0<=Lib.indexByte s 47):s=(q8 s).1:=by unfold q8;rw[if_neg h]
theorem ct_5 (h:¬0<=Lib.indexByte s 47):[]=(q8 s).2.1:=by unfold q8;rw[if_neg h]
theorem ct_6 (h:¬0<=Lib.indexByte s 47):false=(q8 s).2.2:=by unfold q8;rw[if_neg h]
theorem cn_l {b:Bool} (h:(bif decide (s≠[]) then b else false)=true):0<s.length:=by
 cases s with
 | nil=>cases h
 | cons a l=>simp
theorem cn_1:(bif (bif decide (s≠[]) then decide (Lib.trimS s ko=[]) else false) then (bif decide (((byteAt (bsO s) 0):Int)≠48) then true else decide (s=[48])) else false)=canoB s:=by
 unfold canoB
 cases s with
 | nil=>rfl
 | cons c l=>
  have e:decide (((byteAt (bsO (c::l)) 0):Int)≠48)=decide ((c::l).head?≠some 48):=by
   refine decide_eq_decide.2 ?_
   show ((c.toNat:Nat):Int)≠48↔some c≠some 48
   constructor
   ·intro h e
    have e:=Option.some.inj e
    subst e;exact h rfl
   intro h e
   refine h (congrArg some (UInt8.toNat_inj.1 ?_))
   have:(48:UInt8).toNat=48:=rfl
   omega
  rw[e]
  cases decide ((c::l)≠[])<;>cases decide (Lib.trimS (c::l) ko=[])<;>cases decide ((c::l).head?≠some 48)<;>rfl
end
theorem sz24:szT tab 24=some 1:=ae
theorem un238:tab.underlying 238=some (.slice 24):=ae
theorem w99 (b:Bool) (e:Int):CKa 99 [vB b,vI e] (vI (qR b e)):=by
 refine cG qf99 Z (nB Z) Z (Cb Z Z (fun h1=>?_) (fun h1=>?_))
 ·exact Rt Z (leaf (val0:=vI e) ae (li bG))
 exact Rt Z (leaf (val0:=vI 0) ae (li bG))
theorem w187 (b:Bool) (e:Int):CKa 187 [vB b,vI e] (vI (qR b e)):=by
 refine cG qf187 Z (nB Z) Z (Cb Z Z (fun h1=>?_) (fun h1=>?_))
 ·exact Rt Z (leaf (val0:=vI e) ae (li bG))
 exact Rt Z (leaf (val0:=vI 0) ae (li bG))
theorem w97 (n low high:Int):CKa 97 [vI n,vI low,vI high] (vI (qF n low high)):=by
 exact cG qf97 Z (nB Z) Z (Eg Z Z (fun hc=>B.move Z) Z (Eg Z Z (fun hc=>B.move Z) Z (Eg Z Z (fun hc=>B.gtr (qz Z hc) (qz Z hc)) Z (E Z (B.pick Z Z Z Z (gdB Z) (jj _)) (C Z (w99 (bif (decide (n<low)) then true else (decide (high<n))) 3) Z Z Z (Rt Z (leaf (val0:=vI (qR (bif (decide (n<low)) then true else (decide (high<n))) 3)) ae (li (by simp only[qF,outF,bif_or])))))))))
theorem w98 (l:List Int) (hl:l.length<=1000000000000000):CKa 98 [vL eI l] (vI (qB l)):=by
 refine cG qf98 Z (nB Z) Z (E Z (B.jW Z un238) (l1 (fun (k:Nat)=>[(5,vL eI l),(6,vI ((l.length:Nat):Int)),(7,vI ((k:Nat):Int))]) (fun _=>[]) (fun k=>k<=List.length l/\qB l=qB (List.drop k l)) (fun k=>List.length l-k) 0 Z ?_ (sb Z Z Z) ?_))
 · exact⟨zw _,rfl⟩
 intro k hI0
 refine Cp Z Z (fun h1=>?_) (fun h1=>?_)
 ·refine E Z (B.idx (z:=0) (i:=k) Z Z un238 sz24 (fun _=>rfl) Z aa) (Cp Z Z (fun h2=>?_) (fun h2=>?_))
  ·exact Rt Z (leaf (val0:=vI (l.getD k 0)) ae (li bH))
  refine E Z (B.add Z Z bj) (pk Z (L1 (k+1) ?_ ?_ (sb Z Z Z)))
  · (refine⟨aa,?_⟩;rw[hI0.2,drop_at l k 0 aa,qB,if_pos aa])
  · omega
 exact Rt Z (leaf (val0:=vI 0) ae (li bH))
theorem w186 (l:List Int) (hl:l.length<=1000000000000000):CKa 186 [vL eI l] (vI (qB l)):=by
 refine cG qf186 Z (nB Z) Z (E Z (B.jW Z un238) (l1 (fun (k:Nat)=>[(5,vL eI l),(6,vI ((l.length:Nat):Int)),(7,vI ((k:Nat):Int))]) (fun _=>[]) (fun k=>k<=List.length l/\qB l=qB (List.drop k l)) (fun k=>List.length l-k) 0 Z ?_ (sb Z Z Z) ?_))
 · exact⟨zw _,rfl⟩
 intro k hI0
 refine Cp Z Z (fun h1=>?_) (fun h1=>?_)
 ·refine E Z (B.idx (z:=0) (i:=k) Z Z un238 sz24 (fun _=>rfl) Z aa) (Cp Z Z (fun h2=>?_) (fun h2=>?_))
  ·exact Rt Z (leaf (val0:=vI (l.getD k 0)) ae (li bH))
  refine E Z (B.add Z Z bj) (pk Z (L1 (k+1) ?_ ?_ (sb Z Z Z)))
  · (refine⟨aa,?_⟩;rw[hI0.2,drop_at l k 0 aa,qB,if_pos aa])
  · omega
 exact Rt Z (leaf (val0:=vI 0) ae (li bH))
theorem w310 (s:List UInt8):CKa 310 [vS (bsO s),.pv (.lit (.int .u8 47))] (vI (Lib.indexByte s 47)):=by
 exact cG qf310 Z (nB Z) Z (C Z (w335 s) Z Z Z (Rt Z (leaf Z Z)))
theorem w277 (s:List UInt8):CKa 277 [vS (bsO s),vS (bsO [47])] (vI (Lib.indexByte s 47)):=by
 refine cG qf277 Z (nB Z) Z (E Z (B.lenB1 (c:=47) Z un9) (Eg Z Z (fun hc=>B.move Z) Z (Eg Z Z (fun hc=>B.move Z) Z (Eg Z Z (fun hc=>B.seqB (a:=[47]) (b:=s) (qz Z hc) (qz Z hc)) Z (E Z (B.pick Z Z Z Z (gdB Z) (jj _)) (Cb Z Z (fun h1=>?_) (fun h1=>?_)))))))
 ·exact Rt Z (leaf (val0:=vI 0) ae (li (by first|rfl|exact ix_0 ab)))
 exact CT Z Z (E Z (B.sidx (i:=0) Z Z un9 Z (show 0<List.length [47] from ah)) (C Z (w310 s) Z Z Z (Rt Z (leaf Z Z))))
theorem w238 (s:List UInt8) (hs:List.length s<=1000000000):CKa 238 [vS (bsO s),vS (bsO [47])] (.tup [vS (bsO (Prod.fst (q8 s))),vS (bsO (Prod.fst (Prod.snd (q8 s)))),vB (Prod.snd (Prod.snd (q8 s)))]):=by
 refine cG qf238 Z (nB Z) Z ?_
 have hix:=idx_le s 47
 refine C Z (w277 s) Z Z Z (Cp Z Z (fun h1=>?_) (fun h1=>?_))
 ·exact E Z (B.slHB (a:=s) (j:=(Int.toNat (Lib.indexByte s 47))) Z Z un9 (Int.toNat_of_nonneg aa).symm aa) (E Z (B.lenB1 (c:=47) Z un9) (E Z (B.add Z Z bj) (E Z (B.slLB (a:=s) (i:=(Int.toNat ((Lib.indexByte s 47)+1))) Z Z un9 (Int.toNat_of_nonneg aa).symm aa) (Dr Z ae (Rt Z (leaf (val0:=.tup [vS (bsO (List.take (Int.toNat (Lib.indexByte s 47)) s)),vS (bsO (List.drop (Int.toNat ((Lib.indexByte s 47)+1)) s)),vB true]) ae (tup3 (ls bI) (ls bI) (lb bI))))))))
 exact Rt Z (leaf (val0:=.tup [vS (bsO s),vS (bsO []),vB false]) ae (tup3 (ls bI) (ls bI) (lb bI)))
theorem w184 (s:List UInt8) (hs:List.length s<=1000000000):CKa 184 [vS (bsO s),vS (bsO [47])] (.tup [vS (bsO (Prod.fst (q8 s))),vS (bsO (Prod.fst (Prod.snd (q8 s)))),vB (Prod.snd (Prod.snd (q8 s)))]):=by
 exact cG qf184 Z (nB Z) Z (C Z (w238 s hs) Z Z Z (Rt Z (leaf Z Z)))
theorem w185 (s:List UInt8) (hs:List.length s<=1000000000):CKa 185 [vS (bsO s)] (vB (canoB s)):=by
 exact cG qf185 Z (nB Z) Z (E Z (B.sneB (a:=s) (b:=[]) Z Z) (Eg Z Z (fun hc=>B.move Z) Z (Eg Z Z (fun hc=>B.call (w239 s hs) Z (ds2 (qz Z hc) Z) Z) Z (Eg Z Z (fun hc=>B.seqB (a:=(Lib.trimS s ko)) (b:=[]) (qz Z hc) Z) Z (E Z (B.pick Z Z Z (gdB Z) Z (q0 _)) (Eg Z Z (fun hc=>B.move Z) Z (Eg Z Z (fun hc=>B.sidx (i:=0) (qz Z hc) Z un9 Z (show 0<List.length s from (by first|omega|exact cn_l (eq_of_beq hc)))) Z (Eg Z Z (fun hc=>B.neq (qz Z hc) Z) Z (Eg Z Z (fun hc=>B.move (qz Z hc)) Z (Eg Z Z (fun hc=>B.move Z) Z (Eg Z Z (fun hc=>B.seqB (a:=s) (b:=[48]) (qz Z hc) Z) Z (Eg Z Z (fun hc=>B.pick (qz Z hc) Z Z Z (gdB Z) (pick_or2 hc)) Z (E Z (B.pick Z Z Z (gdB Z) Z (q0 _)) (Rt Z (leaf (val0:=vB (bif (bif (decide (s≠[])) then (decide ((Lib.trimS s ko)=[])) else false) then (bif (decide ((byteAt (bsO s) 0)≠48)) then true else (decide (s=[48]))) else false)) ae (lb (by exact cn_1)))))))))))))))))
def kG (s:List UInt8):Bool:=(canoB (q8 (qK s [45])).1&&(!(kq s [45])||decide ((q8 (qK s [45])).1≠[48])))&&(!(q8 (qK s [45])).2.2||(canoB (q8 (qK s [45])).2.1&&decide ((q8 (qK s [45])).2.1≠[48])&&decide ((q8 (qK s [45])).2.1≠[49])))
def longF (s:List UInt8):Bool:=decide (18<s.length)
def jg (s:List UInt8):Int:=if kG s=false then 1 else if longF s=true then 4 else if ((q8 (qK s [45])).2.2&&decide (Nat.gcd (j0 (q8 (qK s [45])).1) (j0 (q8 (qK s [45])).2.1)≠1))=true then 1 else 0
section
variable {s:List UInt8}
theorem trimP_len (s p:List UInt8):(qK s p).length<=s.length:=by
 unfold qK
 cases kq s p
 ·exact zC _
 simp only[cond_true,zo];omega
theorem cutB_len (s:List UInt8):(q8 s).1.length<=s.length/\(q8 s).2.1.length<=s.length:=by
 unfold q8
 split
 ·simp only[zn,zo];omega
 simp
theorem ck_f1 (h:(q8 (qK s [45])).2.2=true):kG s=(bif (bif (bif (bif canoB (q8 (qK s [45])).1 then (bif (!(kq s [45])) then true else decide ((q8 (qK s [45])).1≠[48])) else false) then canoB (q8 (qK s [45])).2.1 else false) then decide ((q8 (qK s [45])).2.1≠[48]) else false) then decide ((q8 (qK s [45])).2.1≠[49]) else false):=by
 unfold kG
 rw[h]
 generalize canoB (q8 (qK s [45])).1=a
 generalize kq s [45]=b
 generalize decide ((q8 (qK s [45])).1≠[48])=c
 generalize canoB (q8 (qK s [45])).2.1=d
 generalize decide ((q8 (qK s [45])).2.1≠[48])=e
 generalize decide ((q8 (qK s [45])).2.1≠[49])=f
 cases a<;>cases b<;>cases c<;>cases d<;>cases e<;>cases f<;>rfl
theorem ck_f2 (h:(q8 (qK s [45])).2.2=false):kG s=(bif canoB (q8 (qK s [45])).1 then (bif (!(kq s [45])) then true else decide ((q8 (qK s [45])).1≠[48])) else false):=by
 unfold kG
 rw[h]
 generalize canoB (q8 (qK s [45])).1=a
 generalize kq s [45]=b
 generalize decide ((q8 (qK s [45])).1≠[48])=c
 cases a<;>cases b<;>cases c<;>rfl
theorem firstF_2 (a b:Bool):qB [qR a 1,qR b 4]=if a=true then 1 else if b=true then 4 else 0:=by cases a<;>cases b<;>rfl
theorem bif_or2 (a b:Bool):(bif a then true else b)=(a||b):=by cases a<;>rfl
theorem ck_w {p:Bool} {a b:Nat} (ha:a<=600) (hb:b<=600):qB [qR p 1,qR (bif (decide (600<((a:Nat):Int))) then true else (decide (600<((b:Nat):Int)))) 4]=if p=true then 1 else 0:=by
 rw[bif_or2,firstF_2,zk aa,zk aa];rfl
theorem ck_h (hs:s.length<=18):(q8 (qK s [45])).1.length<=600/\(q8 (qK s [45])).2.1.length<=600:=by
 have h1:=trimP_len s [45]
 have h2:=cutB_len (qK s [45])
 omega
theorem ck_0 (hs:s.length<=18) (h:¬qB [qR (!(kG s)) 1,qR (bif (decide (600<(((q8 (qK s [45])).1.length:Nat):Int))) then true else (decide (600<(((q8 (qK s [45])).2.1.length:Nat):Int)))) 4]≠0):kG s=true/\longF s=false:=by
 rw[ck_w (ck_h hs).1 (ck_h hs).2] at h
 refine⟨?_,zk aa⟩
 cases h1:kG s
 ·rw[h1] at h;exact absurd (show (if (!false)=true then (1:Int) else 0)≠0 by decide) h
 rfl
theorem ck_7 (hs:s.length<=18) (h:qB [qR (!(kG s)) 1,qR (bif (decide (600<(((q8 (qK s [45])).1.length:Nat):Int))) then true else (decide (600<(((q8 (qK s [45])).2.1.length:Nat):Int)))) 4]≠0):qB [qR (!(kG s)) 1,qR (bif (decide (600<(((q8 (qK s [45])).1.length:Nat):Int))) then true else (decide (600<(((q8 (qK s [45])).2.1.length:Nat):Int)))) 4]=jg s:=by
 rw[ck_w (ck_h hs).1 (ck_h hs).2] at h ⊢
 unfold jg
 cases h1:kG s
 ·rfl
 rw[h1] at h;exact absurd Z h
theorem ck_num (h:kG s=true/\longF s=false):Cano (q8 (qK s [45])).1/\(q8 (qK s [45])).1.length<=18/\(kq s [45]=true->(q8 (qK s [45])).1≠[48]):=by
 obtain⟨h1,h2⟩:=h
 unfold kG at h1
 unfold longF at h2
 simp only[zj,Bool.or_eq_true,zf,Bool.not_eq_true'] at h1
 have h2:=of_decide_eq_false h2
 have h3:=trimP_len s [45]
 have h4:=cutB_len (qK s [45])
 refine⟨canoB_iff.1 h1.1.1,aa,fun hn=>?_⟩
 rcases h1.1.2 with g|g
 ·rw[hn] at g;cases g
 exact g
theorem ck_den (h:kG s=true/\longF s=false) (hb:(q8 (qK s [45])).2.2=true):Cano (q8 (qK s [45])).2.1/\(q8 (qK s [45])).2.1.length<=18/\(q8 (qK s [45])).2.1≠[48]/\(q8 (qK s [45])).2.1≠[49]:=by
 obtain⟨h1,h2⟩:=h
 unfold kG at h1
 unfold longF at h2
 rw[hb] at h1
 simp only[zj,Bool.or_eq_true,zf,Bool.not_eq_true'] at h1
 have h2:=of_decide_eq_false h2
 have h3:=trimP_len s [45]
 have h4:=cutB_len (qK s [45])
 rcases h1.2 with g|g
 ·cases g
 exact⟨canoB_iff.1 g.1.1,aa,g.1.2,g.2⟩
theorem dg_hasP {l:List UInt8} (h:Dgs l):kq l [45]=false:=by
 unfold kq
 cases l with
 | nil=>rfl
 | cons c l=>
  have hc:=h c (ql ..)
  have:¬c=45:=by
   intro e2
   subst e2
   exact absurd hc.1 ah
  simp[this]
theorem dg_trimP {l:List UInt8} (h:Dgs l):qK l [45]=l:=by unfold qK;rw[dg_hasP h];rfl
theorem dg_rd {l:List UInt8} (h:Dgs l) (hn:l≠[]) (hl:l.length<=18):RdOk l:=by unfold RdOk;rw[dg_trimP h];exact⟨h,hn,aa,hl⟩
theorem dg_readI {l:List UInt8} (h:Dgs l):jG l=((j0 l:Nat):Int):=by unfold jG;rw[dg_hasP h,dg_trimP h];rfl
theorem rd_sm {l:List UInt8} (h:RdOk l):Sm (jG l):=by
 have h1:=rd_lt (l:=qK l [45]) ⟨h.1,h.2.1,h.2.2.2⟩
 unfold jG Sm
 cases kq l [45]
 ·simp only[cond_false];omega
 simp only[cond_true];omega
theorem ck_1 (h:kG s=true/\longF s=false):RdOk (q8 (qK s [45])).1:=by
 have:=ck_num h
 exact dg_rd this.1.1 this.1.2.1 this.2.1
theorem ck_2 (h:kG s=true/\longF s=false) (hb:(q8 (qK s [45])).2.2=true):RdOk (q8 (qK s [45])).2.1:=by
 have:=ck_den h hb
 exact dg_rd this.1.1 this.1.2.1 this.2.1
theorem decV_0 {l:List UInt8} (h:Cano l):j0 l=0↔l=[48]:=by
 constructor
 ·intro e
  have:=dec_of _ Z h
  rw[e,Lib.decDigits,dif_pos ah] at this
  exact this.symm
 intro e;subst e;rfl
theorem ck_g (g:Nat):qR (decide (jz ((g:Int)-1)≠0)) 1=if decide (g≠1)=true then 1 else 0:=by
 by_cases e:g=1
 ·subst e;rfl
 rw[zl (show jz ((g:Int)-1)≠0 from fun k=>e (by have:=sgn_0.1 k;omega)),if_pos (by simpa using e)];rfl
theorem ck_8 (h:kG s=true/\longF s=false):qR (bif (q8 (qK s [45])).2.2 then decide (jz (((Nat.gcd (jG (q8 (qK s [45])).1).natAbs (jG (q8 (qK s [45])).2.1).natAbs:Nat):Int)-1)≠0) else false) 1=jg s:=by
 unfold jg
 rw[if_neg (by rw[h.1];decide),if_neg (by rw[h.2];decide)]
 cases hb:(q8 (qK s [45])).2.2
 ·rfl
 have h1:=ck_num h
 have h2:=ck_den h hb
 rw[dg_readI h1.1.1,dg_readI h2.1.1]
 simp only[Int.natAbs_natCast,cond_true,Bool.true_and]
 exact ck_g _
theorem chk_0 (h:jg s=0):(kG s=true/\longF s=false)/\((q8 (qK s [45])).2.2=true->Nat.gcd (j0 (q8 (qK s [45])).1) (j0 (q8 (qK s [45])).2.1)=1):=by
 unfold jg at h
 cases h1:kG s with
 | false=>rw[if_pos h1] at h;cases h
 | true=>
  cases h2:longF s with
  | true=>rw[if_neg (by rw[h1];decide),if_pos h2] at h;cases h
  | false=>
   rw[if_neg (by rw[h1];decide),if_neg (by rw[h2];decide)] at h
   refine⟨⟨rfl,rfl⟩,fun hb=>?_⟩
   rw[hb,Bool.true_and] at h
   by_cases e:Nat.gcd (j0 (q8 (qK s [45])).1) (j0 (q8 (qK s [45])).2.1)=1
   ·exact e
   rw[if_pos (zl e)] at h;cases h
theorem cut_sign (s:List UInt8):q8 s=(bif kq s [45] then 45::(q8 (qK s [45])).1 else (q8 (qK s [45])).1,(q8 (qK s [45])).2.1,(q8 (qK s [45])).2.2):=by
 cases hh:kq s [45] with
 | false=>rw[show qK s [45]=s by unfold qK;rw[hh];rfl];rfl
 | true=>
  have e:s=45::qK s [45]:=by
   cases s with
   | nil=>cases hh
   | cons c l=>
    have h1:c=45:=by
     unfold kq at hh
     simp only[zj,zf] at hh
     have:=hh.2
     simpa using this
    unfold qK
    rw[hh]
    simp only[cond_true,qb,List.drop_one,List.tail_cons]
    rw[h1]
  generalize qK s [45]=d at e ⊢
  subst e
  simp only[cond_true]
  have hi:Lib.indexByte (45::d) 47=if Lib.indexByte d 47= -1 then -1 else Lib.indexByte d 47+1:=by
   conv=>lhs;unfold Lib.indexByte
   rw[if_neg ah]
   by_cases g:Lib.indexByte d 47= -1
   ·rw[g];rfl
   rw[if_neg (by simpa using g),if_neg g]
  unfold q8
  rw[hi]
  have hg:=Lib.indexByte_ge d 47
  by_cases g:Lib.indexByte d 47= -1
  ·rw[if_pos g,if_neg ah,if_neg aa]
  rw[if_neg g,if_pos aa,if_pos aa,show (Lib.indexByte d 47+1).toNat=(Lib.indexByte d 47).toNat+1 by omega];rfl
theorem fr_n (h:kG s=true/\longF s=false):kq (q8 s).1 [45]=kq s [45]/\qK (q8 s).1 [45]=(q8 (qK s [45])).1:=by
 have h1:=(ck_num h).1.1
 rw[cut_sign s]
 cases hh:kq s [45] with
 | false=>exact⟨dg_hasP h1,dg_trimP h1⟩
 | true=>
  simp only[cond_true]
  generalize (q8 (qK s [45])).1=X
  have e:kq (45::X) [45]=true:=by unfold kq;simp
  refine⟨e,?_⟩
  unfold qK
  rw[e];rfl
theorem ck_l18 (h:jg s=0):s.length<=18:=by have:=of_decide_eq_false (chk_0 h).1.2;omega
theorem ck_l (h:jg s=0):s.length<=1000000000:=qh (ck_l18 h) ah
theorem fr_1 (h:jg s=0):RdOk (q8 s).1:=by
 have h1:=(chk_0 h).1
 have h2:=ck_num h1
 unfold RdOk
 rw[(fr_n h1).2]
 exact⟨h2.1.1,h2.1.2.1,by have:=(cutB_len s).1;have:=ck_l18 h;omega,h2.2.1⟩
theorem cut_2 (s:List UInt8):(q8 s).2.1=(q8 (qK s [45])).2.1/\(q8 s).2.2=(q8 (qK s [45])).2.2:=by
 rw[cut_sign s];exact⟨rfl,rfl⟩
theorem fr_2 (h:jg s=0) (hb:(q8 s).2.2=true):RdOk (q8 s).2.1:=by
 rw[(cut_2 s).1]
 rw[(cut_2 s).2] at hb
 exact ck_2 (chk_0 h).1 hb
theorem readI_v (h:jg s=0):jG (q8 s).1=bif kq s [45] then -((j0 (q8 (qK s [45])).1:Nat):Int) else ((j0 (q8 (qK s [45])).1:Nat):Int):=by
 have h1:=fr_n (chk_0 h).1
 unfold jG
 rw[h1.1,h1.2]
theorem readI_a (h:jg s=0):(jG (q8 s).1).natAbs=j0 (q8 (qK s [45])).1:=by
 rw[readI_v h]
 cases kq s [45]
 ·simp
 simp
def denI (s:List UInt8):Int:=bif (q8 s).2.2 then jG (q8 s).2.1 else 1
theorem denI_v (h:jg s=0):denI s=bif (q8 (qK s [45])).2.2 then ((j0 (q8 (qK s [45])).2.1:Nat):Int) else 1:=by
 unfold denI
 rw[(cut_2 s).1,(cut_2 s).2]
 cases hb:(q8 (qK s [45])).2.2
 ·rfl
 simp only[cond_true]
 rw[dg_readI (ck_den (chk_0 h).1 hb).1.1]
theorem den_pos (h:jg s=0):0<denI s:=by
 rw[denI_v h]
 cases hb:(q8 (qK s [45])).2.2
 ·show (0:Int)<1;decide
 have h2:=ck_den (chk_0 h).1 hb
 have:j0 (q8 (qK s [45])).2.1≠0:=fun e=>h2.2.2.1 ((decV_0 h2.1).1 e)
 simp only[cond_true];omega
theorem den_cop (h:jg s=0):Nat.gcd (jG (q8 s).1).natAbs (denI s).natAbs=1:=by
 rw[readI_a h,denI_v h]
 cases hb:(q8 (qK s [45])).2.2
 ·exact Nat.gcd_one_right _
 simp only[cond_true,Int.natAbs_natCast]
 exact (chk_0 h).2 hb
def qJ (s:List UInt8):Qn:=if jg s=0 then Qn.make (jG (q8 s).1) (denI s) else frZ
theorem valQ_q (h:jg s=0):Qn.n (qJ s)=jG (q8 s).1/\Qn.d (qJ s)=denI s:=by
 unfold qJ Qn.n Qn.d
 rw[if_pos h]
 have g:=mk_nd (X:=jG (q8 s).1) (den_pos h)
 rw[den_cop h,show ((1:Nat):Int)=1 from rfl,Int.ediv_one,Int.ediv_one] at g
 exact g
theorem fr_3 (h:jg s=0) (h1:(!((q8 s).2.2))=true):(DV.pv (.agg [pI (Qn.n (Qn.whole (jG (q8 s).1))),jl,pI (Qn.d (Qn.whole (jG (q8 s).1))),jl]))=.pv (.agg [pI (Qn.n (qJ s)),jl,pI (Qn.d (qJ s)),jl]):=by
 have hb:(q8 s).2.2=false:=by simpa using h1
 have e:denI s=1:=by unfold denI;rw[hb];rfl
 rw[(valQ_q h).1,(valQ_q h).2,e];rfl
theorem fr_4 (h:jg s=0) (h1:(!((q8 s).2.2))=false):(DV.pv (.agg [pI (jG (q8 s).1),jl,pI (jG (q8 s).2.1),jl]))=.pv (.agg [pI (Qn.n (qJ s)),jl,pI (Qn.d (qJ s)),jl]):=by
 have hb:(q8 s).2.2=true:=by simpa using h1
 have e:denI s=jG (q8 s).2.1:=by unfold denI;rw[hb];rfl
 rw[(valQ_q h).1,(valQ_q h).2,e]
end
theorem w112 (s:List UInt8) (hs:List.length s<=18):CKa 112 [vS (bsO s)] (vI (jg s)):=by
 refine cG qf112 Z (nB Z) Z (C Z (w183 s [45] aa ah) Z Z Z ?_)
 have hs2:List.length (qK s [45])<=1000000000:=qh (qh (trimP_len s _) hs) ah
 refine C Z (w184 (qK s [45]) hs2) Z Z Z ?_
 have hs3:=qh (cutB_len (qK s [45])).1 hs2
 have hs4:=qh (cutB_len (qK s [45])).2 hs2
 refine C Z (w185 (Prod.fst (q8 (qK s [45]))) hs3) Z Z Z (Eg Z Z (fun hc=>B.move Z) Z (Eg Z Z (fun hc=>B.not (qz Z hc)) Z (Eg Z Z (fun hc=>B.move (qz Z hc)) Z (Eg Z Z (fun hc=>B.move Z) Z (Eg Z Z (fun hc=>B.sneB (a:=(Prod.fst (q8 (qK s [45])))) (b:=[48]) (qz Z hc) Z) Z (Eg Z Z (fun hc=>B.pick (qz Z hc) Z Z Z (gdB Z) (pick_or2 hc)) Z (E Z (B.pick Z Z Z (gdB Z) Z (q0 _)) (Cj [(5,vS (bsO (Prod.fst (q8 (qK s [45]))))),(6,vS (bsO (Prod.fst (Prod.snd (q8 (qK s [45])))))),(7,vB (Prod.snd (Prod.snd (q8 (qK s [45]))))),(8,vB (kG s))] [] Z Z Z (fun h1=>?_) (fun h1=>?_) ?_))))))))
 ·refine Eg Z Z (fun hc=>B.move Z) Z (Eg Z Z (fun hc=>B.call (w185 (Prod.fst (Prod.snd (q8 (qK s [45])))) hs4) Z (ds1 (qz Z hc)) Z) Z (E Z (B.pick Z Z Z (gdB Z) Z (q0 _)) (Eg Z Z (fun hc=>B.move Z) Z (Eg Z Z (fun hc=>B.sneB (a:=(Prod.fst (Prod.snd (q8 (qK s [45]))))) (b:=[48]) (qz Z hc) Z) Z (E Z (B.pick Z Z Z (gdB Z) Z (q0 _)) (Eg Z Z (fun hc=>B.move Z) Z (Eg Z Z (fun hc=>B.sneB (a:=(Prod.fst (Prod.snd (q8 (qK s [45]))))) (b:=[49]) (qz Z hc) Z) Z (E Z (B.pick Z Z Z (gdB Z) Z (q0 _)) (pk Z ?_)))))))))
  show Sub _ _ _
  first|rw[ck_f1 h1]|rw[ck_f2 h1]
  exact sb Z Z rfl
 ·refine pk Z ?_
  show Sub _ _ _
  first|rw[ck_f1 h1]|rw[ck_f2 h1]
  exact sb Z Z rfl
 refine C Z (w187 (!(kG s)) 1) Z Z Z (E Z (B.lenB (a:=(Prod.fst (q8 (qK s [45])))) Z un9) (Eg Z Z (fun hc=>B.move Z) Z (Eg Z Z (fun hc=>B.lenB (a:=(Prod.fst (Prod.snd (q8 (qK s [45]))))) (qz Z hc) un9) Z (Eg Z Z (fun hc=>B.gtr (qz Z hc) Z) Z (E Z (B.pick Z Z Z Z (gdB Z) (jj _)) (C Z (w187 (bif (decide (600<((List.length (Prod.fst (q8 (qK s [45]))):Nat):Int))) then true else (decide (600<((List.length (Prod.fst (Prod.snd (q8 (qK s [45])))):Nat):Int)))) 4) Z Z Z (E Z (B.ja (val:=.pv (.slice (List.map eI [(qR (!(kG s)) 1),(qR (bif (decide (600<((List.length (Prod.fst (q8 (qK s [45]))):Nat):Int))) then true else (decide (600<((List.length (Prod.fst (Prod.snd (q8 (qK s [45])))):Nat):Int)))) 4)]))) Z (fun l=>Frz.arr l _ _ _ _ _) Z) (C Z (w186 [(qR (!(kG s)) 1),(qR (bif (decide (600<((List.length (Prod.fst (q8 (qK s [45]))):Nat):Int))) then true else (decide (600<((List.length (Prod.fst (Prod.snd (q8 (qK s [45])))):Nat):Int)))) 4)] (zZ Z)) Z Z Z (Cp Z Z (fun h2=>?_) (fun h2=>?_))))))))))
 ·exact Rt Z (leaf (val0:=vI (qB [(qR (!(kG s)) 1),(qR (bif (decide (600<((List.length (Prod.fst (q8 (qK s [45]))):Nat):Int))) then true else (decide (600<((List.length (Prod.fst (Prod.snd (q8 (qK s [45])))):Nat):Int)))) 4)])) ae (li bJ))
 have hck:=ck_0 hs h2
 exact Eg Z Z (fun hc=>B.move Z) Z (Eg Z Z (fun hc=>B.call (w189 (Prod.fst (q8 (qK s [45]))) (ck_1 hck)) Z (ds1 (qz Z hc)) Z) Z (Eg Z Z (fun hc=>B.move Z) Z (Eg Z Z (fun hc=>B.call (w189 (Prod.fst (Prod.snd (q8 (qK s [45])))) (ck_2 hck (eq_of_beq hc))) Z (ds1 (qz Z hc)) Z) Z (Eg Z Z (fun hc=>B.call (w188 (jG (Prod.fst (q8 (qK s [45])))) (jG (Prod.fst (Prod.snd (q8 (qK s [45]))))) (rd_sm (ck_1 hck)) (rd_sm (ck_2 hck (eq_of_beq hc)))) Z (ds2 (qz Z hc) (qz Z hc)) Z) Z (Eg Z Z (fun hc=>B.call (w177 1) Z Z Z) Z (Eg Z Z (fun hc=>B.call (w190 ((Nat.gcd (Int.natAbs (jG (Prod.fst (q8 (qK s [45]))))) (Int.natAbs (jG (Prod.fst (Prod.snd (q8 (qK s [45])))))):Nat):Int) 1) Z (ds2 (qz Z hc) (qz Z hc)) Z) Z (Eg Z Z (fun hc=>B.neq (qz Z hc) Z) Z (E Z (B.pick Z Z Z (gdB Z) Z (q0 _)) (C Z (w187 (bif (Prod.snd (Prod.snd (q8 (qK s [45])))) then (decide ((jz (((Nat.gcd (Int.natAbs (jG (Prod.fst (q8 (qK s [45]))))) (Int.natAbs (jG (Prod.fst (Prod.snd (q8 (qK s [45])))))):Nat):Int)-1))≠0)) else false) 1) Z Z Z (Rt Z (leaf (val0:=vI (qR (bif (Prod.snd (Prod.snd (q8 (qK s [45])))) then (decide ((jz (((Nat.gcd (Int.natAbs (jG (Prod.fst (q8 (qK s [45]))))) (Int.natAbs (jG (Prod.fst (Prod.snd (q8 (qK s [45])))))):Nat):Int)-1))≠0)) else false) 1)) ae (li bJ))))))))))))
theorem w116 (s:List UInt8) (h:jg s=0):CKa 116 [vS (bsO s)] (.pv (.agg [pI (Qn.n (qJ s)),.lit (.slice none 0 0),pI (Qn.d (qJ s)),.lit (.slice none 0 0)])):=by
 refine cG qf116 Z (nB Z) Z (E Z (B.ja Z (fun l=>Frz.jU l Z) Z) (C Z (w184 s (ck_l h)) Z Z Z (Cb Z Z (fun h1=>?_) (fun h1=>?_))))
 ·refine C Z (w189 (Prod.fst (q8 s)) (fr_1 h)) Z Z Z (C Z (w176 (jG (Prod.fst (q8 s)))) Z Z Z ?_)
  refine Rt Z ?_
  exact leaf (val0:=.pv (.agg [pI (Qn.n (Qn.whole (jG (Prod.fst (q8 s))))),.lit (.slice none 0 0),pI (Qn.d (Qn.whole (jG (Prod.fst (q8 s))))),.lit (.slice none 0 0)])) ae bK
 refine C Z (w189 (Prod.fst (q8 s)) (fr_1 h)) Z Z Z (C Z (w189 (Prod.fst (Prod.snd (q8 s))) (fr_2 h (by simpa using h1))) rfl rfl rfl (E rfl (B.run (val:=.pv (.agg [pI (jG (Prod.fst (q8 s))),.lit (.slice none 0 0),pI (jG (Prod.fst (Prod.snd (q8 s)))),.lit (.slice none 0 0)])) (m:=[]) (rd:=[]) ae) ?_))
 refine Rt Z ?_
 exact leaf (val0:=.pv (.agg [pI (jG (Prod.fst (q8 s))),.lit (.slice none 0 0),pI (jG (Prod.fst (Prod.snd (q8 s)))),.lit (.slice none 0 0)])) ae bK
end Go.Lens.Tb
end
section
namespace Go.Lens
variable [Lz]
section
variable {P:Program} {Y:Tab} [qM P Y] {nb:Nat} {s:St} {dst:Option Tmp} {ty u:TypeId} {pos:String} {af:Array Edge} {gd:Option (Nat×Bool)} {t:TypeId} {x y z:Operand}
theorem B.setA {α:Type} {enc:α->List PV} {l:List α} {z0:α} {cs:List PV} {h v n sz:Nat} {T:TypeId} (hx:ev1 s x=.eref h v n 0) (hm:qw s.ms h=some (.arr v sz T (l.map enc))) (hy:ev1 s y=.pv (.agg cs)) (hz:enc z0=cs)
  (hs:szT Y t=some sz) (hlt:n<l.length) (hsz:∀ a,(enc a).length=sz):Body P Y nb s ⟨dst,.store t x y,ty,pos,af,gd⟩ .dead [(h,.arr v sz T ((l.set n z0).map enc))] [h]:=by
 refine .inr (km.of fun σ G a w hv hl I=>?_)
 have hX:=hv x aY
 have hY:=hv y aY
 rw[hx] at hX;rw[hy] at hY
 have hlk:qw σ.ms h=some (.arr v sz T (l.map enc)):=by rw[hl h (.inl ao)];exact hm
 have C:Ctx G w (fun z=>match z with| .tmp 0=>a.eval x| .tmp 1=>a.eval y|_=>undef) (fun z=>match z with| .tmp 0=>.eref h v n 0| .tmp 1=>.pv (.agg cs)|_=>.dead) (qw σ.ms) (qw σ.ms):=by
  refine I.mem.ctx2 (fun z=>?_) (fun z k hk=>?_)
  ·split
   ·exact hX
   ·exact hY
   simp only[qx]
  split at hk
  ·simp only[DV.refs,zg] at hk;subst hk;exact⟨_,hlk⟩
  ·simp[DV.refs] at hk
  simp[DV.refs] at hk
 have hcv:storeV Y t (.eref h v n 0) (.pv (.agg cs)) (qw σ.ms)=some ⟨true,.dead,[(h,.arr v sz T ((l.set n z0).map enc))]⟩:=by
  unfold storeV
  have hp:pvOf (qw σ.ms) (.pv (.agg cs))=some (.agg cs):=rfl
  have hg:(l.map enc).getD n []=enc (l[n]'hlt):=by rw[ze,qe,zm hlt];rfl
  have hk:cs.length=sz:=by rw[<-hz];exact hsz z0
  have hc:cellsPV (.agg cs)=cs:=rfl
  have hd:(enc (l[n]'hlt)).drop sz=[]:=zW (by rw[hsz];omega)
  have hdec:decide (n<(l.map enc).length/\0+sz<=sz)=true:=zl ⟨by rw[zJ];exact hlt,aa⟩
  simp only[hs,hlk,hp,hc,hk,and_self,qp,hg,List.take_zero,zV,Nat.zero_add,hd,zS,List.map_set,hz]
  simp only[Nat.zero_add] at hdec
  simp[hlt]
 obtain⟨w',G',h1,h2⟩:=storeV_sound (P:=P) C (t:=t) (a:=.tmp 0) (x:=.tmp 1) hcv rfl
 refine⟨undef,w',G',.inr ⟨?_,rfl⟩,h2⟩
 have lift:∀ {q:Sem Unit} {w':World},q.run P w=.ok () w'->(do q;Pure.pure Next.skip:Sem Next).run P w=.ok .skip w':=by
  intro q w' h
  simp only[qt,h,qr,qu]
 exact lift (q:=Instr.storeAt _ _ _) h1
theorem B.copyE {α:Type} {enc:α->List PV} {l:List α} {es0:List (List PV)} {h v sz:Nat} {e at2:TypeId} (hx:ev1 s x=.aref h v) (hm:qw s.ms h=some (.arr v sz e es0)) (hy:ev1 s y=.pv (.slice (l.map enc))) (hlen:es0.length=l.length)
  (und:Y.underlying t=some (.slice e)) (hs:szT Y e=some sz) (h0:Nat.blt 0 sz=true) (hsz:∀ a,(enc a).length=sz) :
  Body P Y nb s ⟨dst,.call ⟨.builtin .copy,⟨[x,y]⟩,⟨[t,at2]⟩⟩,ty,pos,af,gd⟩ (lit (.int .i64 ((l.length:Nat):Int))) [(h,.arr v sz e (l.map enc))] [h]:=by
 refine .inr (km.of fun σ G a w hv hl I=>?_)
 have hX:=hv x (show x∈[x,y] by simp)
 have hY:=hv y (show y∈[x,y] by simp)
 rw[hx] at hX;rw[hy] at hY
 have hlk:qw σ.ms h=some (.arr v sz e es0):=by rw[hl h (.inl ao)];exact hm
 have C:Ctx G w (fun z=>match z with| .tmp 0=>a.eval x| .tmp 1=>a.eval y|_=>undef) (fun z=>match z with| .tmp 0=>.aref h v| .tmp 1=>.pv (.slice (l.map enc))|_=>.dead) (qw σ.ms) (qw σ.ms):=by
  refine I.mem.ctx2 (fun z=>?_) (fun z k hk=>?_)
  ·split
   ·exact hX
   ·exact hY
   simp only[qx]
  split at hk
  ·simp only[DV.refs,zg] at hk;subst hk;exact⟨_,hlk⟩
  ·simp[DV.refs] at hk
  simp[DV.refs] at hk
 have hc:copyV Y t (.aref h v) (.pv (.slice (l.map enc))) (qw σ.ms)=some ⟨true,lit (.int .i64 ((l.length:Nat):Int)),[(h,.arr v sz e (l.map enc))]⟩:=by
  unfold copyV
  have hal:jO sz (l.map enc)=true:=by
   unfold jO
   rw[zr]
   intro b hb
   obtain⟨c,_,rfl⟩:=zF.1 hb
   simpa using hsz c
  have hcs:conts (qw σ.ms) (.pv (.slice (l.map enc)))=some (l.map enc):=by simp[conts]
  have hp:0<sz:=by simpa using h0
  have hn:Min.min (l.map enc).length es0.length=l.length:=by simp[hlen]
  simp only[und,hs,hlk,hcs,hp,and_self,qp,hal,hn]
  rw[zB ao,zW (by simp[hlen]),zS]
 obtain⟨r',w',G',h1,h2⟩:=copyV_sound (P:=P) C (t:=t) (st:=at2) (ty:=ty) (d:=.tmp 0) (s:=.tmp 1) hc rfl
 refine⟨r',w',G',.inl ?_,h2⟩
 have lift:∀ {q:Sem Value} {r:Value} {w':World},q.run P w=.ok r w'->(do Pure.pure (Next.value (<-q)):Sem Next).run P w=.ok (.value r) w':=by
  intro q r w' h
  simp only[qt,h,qr,qu]
 exact lift (q:=Builtin.copy_ _ _ _) (by simpa using h1)
end
end Go.Lens
end
section
namespace Go.Lens.Tb
open Go.Proofs Go.Lens.Un
variable [Lz] [Dn]
set_option maxRecDepth 100000
attribute [local irreducible] TK PK T RG EfR Body CG
abbrev eF (x:Qn):List PV:=[pI (Qn.n x),jl,pI (Qn.d x),jl]
def eG:Option Qn->List PV
 | none=>[pI 0,.slice [],pI 0,.slice []]
 | some x=>eF x
theorem jf {α:Type} {l:List α} {k:Nat} {z:α} (h:k<l.length):l.getD k z∈l:=by
 rw[ze,zm h];exact List.getElem_mem h
theorem tx_step {l:List Qn} {o:List (List UInt8)} {k:Nat} (h:o=List.map (fun a=>txt (Qn.q a)) (List.take k l)++List.replicate (l.length-k) []) (hk:k<l.length) :
  o.set k (txt (Qn.q (l.getD k frZ)))=List.map (fun a=>txt (Qn.q a)) (List.take (k+1) l)++List.replicate (l.length-(k+1)) []:=by
 rw[h,List.set_append_right _ _ aJ]
 have e1:k-(List.map (fun a=>txt (Qn.q a)) (List.take k l)).length=0:=by simp;omega
 rw[e1,show l.length-k=(l.length-(k+1))+1 by omega,List.replicate_succ,List.set_cons_zero,List.take_succ_eq_append_getElem hk,qc,z8,ze,zm hk]
 rfl
def resT (q:Rat):List UInt8:=bif je q then [] else txt q
def resE (q:Rat):Int:=bif je q then 4 else 0
section
variable {x:Qn}
theorem rs_1 (h:je x.q=true):[]=resT x.q:=by unfold resT;rw[h];rfl
theorem rs_2 (h:je x.q=false):txt x.q=resT x.q:=by unfold resT;rw[h];rfl
theorem rs_3 (h:je x.q=true):4=resE x.q:=by unfold resE;rw[h];rfl
theorem rs_4 (h:je x.q=false):0=resE x.q:=by unfold resE;rw[h];rfl
end
theorem by33:ty33.info.bytes=16:=ae
theorem in33:tab.info? 33=some ty33.info:=ae
theorem sz33:szT tab 33=some 1:=ae
theorem kf:tab.underlying 190=some (.slice 156):=ae
theorem un61:tab.underlying 61=some (.slice 33):=ae
theorem w203 (hp:qX) (l:List Qn) (hl:List.length l<=1000000) (hz:(∀ a∈l,sz (Qn.q a)<=62)):CKa 203 [vL eF l] (vL eN (List.map (fun a=>txt (Qn.q a)) l)):=by
 refine cG qf203 Z (nB Z) Z (E Z (B.kg (enc:=eN) Z) (E Z (B.jW Z kf) (E Z (B.makeSl (enc:=eN) (sz:=1) (z0:=[]) (n:=(l.length)) (m:=(l.length)) Z Z Z un61 in33 Z Z Z by33 aa Z Z) (E Z (B.jW Z kf) (l2 (fun (k:Nat) (o:List (List UInt8))=>[(3,.aref 9 0),(9,vL eF l),(10,vI ((l.length:Nat):Int)),(11,vI ((k:Nat):Int))]) (fun _ o=>[(9,.arr 0 1 33 (List.map eN o))]) (fun k o=>k<=List.length l/\o=List.map (fun a=>txt (Qn.q a)) (List.take k l)++List.replicate (l.length-k) []) (fun k _=>List.length l-k) 0 (List.replicate (l.length) []) Z ?_ (sb Z Z Z) ?_)))))
 · exact⟨zw _,rfl⟩
 intro k o hI0
 have hol:List.length o=List.length l:=by rw[hI0.2];simp;omega
 refine Cp Z Z (fun h1=>?_) (fun h1=>?_)
 ·refine E Z (B.idx (z:=frZ) (i:=k) Z Z kf kr (fun _=>rfl) Z aa) (E Z (B.ja Z (fun l=>Frz.jU l Z) Z) (C Z (w162 hp (l.getD k frZ) (hz _ (jf aa))) Z Z Z (E Z (B.idxE (n:=k) Z Z Z un61 sz33 Z aa) (E Z (B.setE (z0:=(txt (Qn.q (l.getD k frZ)))) Z Z Z Z Z sz33 aa (fun _=>rfl)) (E Z (B.add Z Z bj) (pk Z (L2 (k+1) (List.set o k (txt (Qn.q (l.getD k frZ)))) ?_ ?_ (sb Z Z Z))))))))
  · exact⟨aa,tx_step hI0.2 aa⟩
  · omega
 exact Fz 9999 2 Z Z Z (Rt Z (leaf (val0:=vL eN o) ae (lsl (by rw[hI0.2,zB aa,show List.length l-k=0 by omega,List.replicate_zero,zS]))))
theorem w113 (hp:qX) (x:Qn) (hs:sz (Qn.q x)<=62):CKa 113 [.pv (.agg [pI (Qn.n x),.lit (.slice none 0 0),pI (Qn.d x),.lit (.slice none 0 0)])] (.tup [vS (bsO (resT (Qn.q x))),vI (resE (Qn.q x))]):=by
 refine cG qf113 Z (nB Z) Z (C Z (w181 x hs) Z Z Z (Cb Z Z (fun h1=>?_) (fun h1=>?_)))
 ·exact Rt Z (leaf (val0:=.tup [vS (bsO []),vI 4]) ae (kh (ls bL) (li bL)))
 exact C Z (w162 hp x hs) Z Z Z (Rt Z (leaf (val0:=.tup [vS (bsO (txt (Qn.q x))),vI 0]) ae (kh (ls bL) (li bL))))
def idxR (p:Qn->Bool):List Qn->Int->Int
 | [],_=> -1
 | a::l,i=>bif p a then i else idxR p l (i+1)
def jn {α:Type} (f:α->Int):List α->Int
 | []=>0
 | a::l=>if f a=0 then jn f l else f a
def chkV (l:List (List UInt8)):Int:=qB [qR (decide (256<((l.length:Nat):Int))) 5,jn jg l]
def chkP (l:List (List UInt8)):Int:=qB [chkV l,qR (decide (((l.length:Nat):Int)=0)) 12]
def jZ (l:List Qn):List (List UInt8):=bif l.any (fun a=>je (Qn.q a)) then [] else l.map (fun a=>txt (Qn.q a))
def jh (l:List Qn):Int:=bif l.any (fun a=>je (Qn.q a)) then 4 else 0
section
variable {l:List Qn} {p:Qn->Bool} {k:Nat}
theorem ix_step (hk:k<l.length) (h:p (l.getD k frZ)=false):idxR p (l.drop k) k=idxR p (l.drop (k+1)) ((k+1:Nat):Int):=by
 rw[drop_at l k frZ hk,idxR,h];rfl
theorem ix_end {i:Int} (h:i=idxR p (l.drop k) k) (hk:¬((k:Nat):Int)<((l.length:Nat):Int)): -1=i:=by
 rw[h,zW aa];rfl
theorem ix_at {i:Int} (h:i=idxR p (l.drop k) k) (hk:k<l.length) (hp:p (l.getD k frZ)=true):((k:Nat):Int)=i:=by
 rw[h,drop_at l k frZ hk,idxR,hp];rfl
theorem ix_any:decide (0<=idxR p l 0)=l.any p:=by
 have key:∀ (l:List Qn) (i:Int),0<=i->decide (0<=idxR p l i)=l.any p:=by
  intro l
  induction l with
  | nil=>intro i _;rfl
  | cons a l ih=>
   intro i hi
   rw[idxR,List.any_cons]
   cases p a
   ·simp only[cond_false,Bool.false_or];exact ih _ aa
   simp only[cond_true,Bool.true_or];exact zl hi
 exact key l 0 aa
theorem rt_1 (h:l.any (fun a=>je (Qn.q a))=true):[]=jZ l:=by unfold jZ;rw[h];rfl
theorem rt_2 (h:l.any (fun a=>je (Qn.q a))=false):l.map (fun a=>txt (Qn.q a))=jZ l:=by unfold jZ;rw[h];rfl
theorem rt_3 (h:l.any (fun a=>je (Qn.q a))=true):4=jh l:=by unfold jh;rw[h];rfl
theorem rt_4 (h:l.any (fun a=>je (Qn.q a))=false):0=jh l:=by unfold jh;rw[h];rfl
end
section
variable {α:Type} {l:List α} {f:α->Int} {k:Nat} {z:α}
theorem ea_step (hk:k<l.length) (h:¬f (l.getD k z)≠0):jn f (l.drop k)=jn f (l.drop (k+1)):=by
 rw[drop_at l k z hk,jn,if_pos (zi.1 h)]
theorem ea_end {i:Int} (h:i=jn f (l.drop k)) (hk:¬((k:Nat):Int)<((l.length:Nat):Int)):0=i:=by
 rw[h,zW aa];rfl
theorem ea_at {i:Int} (h:i=jn f (l.drop k)) (hk:k<l.length) (hp:f (l.getD k z)≠0):f (l.getD k z)=i:=by
 rw[h,drop_at l k z hk,jn,if_neg hp]
end
section
variable {l:List (List UInt8)} {k:Nat} {o:List (Option Qn)}
theorem va_step (h:o=List.map (fun s=>some (qJ s)) (List.take k l)++List.replicate (l.length-k) none) (hk:k<l.length) :
  o.set k (some (qJ (l.getD k [])))=List.map (fun s=>some (qJ s)) (List.take (k+1) l)++List.replicate (l.length-(k+1)) none:=by
 rw[h,List.set_append_right _ _ aJ]
 have e1:k-(List.map (fun s=>some (qJ s)) (List.take k l)).length=0:=by simp;omega
 rw[e1,show l.length-k=(l.length-(k+1))+1 by omega,List.replicate_succ,List.set_cons_zero,List.take_succ_eq_append_getElem hk,qc,z8,ze,zm hk]
 rfl
theorem va_end (hk:l.length<=k):[(3008,MO.arr 0 4 156 (List.map eG (List.map (fun s=>some (qJ s)) (List.take k l)++List.replicate (l.length-k) none)))]=[(3008,MO.arr 0 4 156 (List.map eF (List.map qJ l)))]:=by
 rw[zB hk,show l.length-k=0 by omega,List.replicate_zero,zS,List.map_map,List.map_map];rfl
end
theorem ag33:aggT tab 33=some false:=ae
theorem by156:ty156.info.bytes=64:=ae
theorem in156:tab.info? 156=some ty156.info:=ae
theorem w256 (hp:qX) (l:List Qn) (hl:List.length l<=1000000) (hz:(∀ a∈l,sz (Qn.q a)<=62)):CKa 256 [vL eF l,.pv (.fn (.func 181) [] [])] (vI (idxR (fun a=>je (Qn.q a)) l 0)):=by
 refine cG qf256 Z (nB Z) Z (E Z (B.jW Z kf) (l1 (fun (k:Nat)=>[(0,vL eF l),(1,.pv (.fn (.func 181) [] [])),(7,vI ((l.length:Nat):Int)),(8,vI ((k:Nat):Int))]) (fun _=>[]) (fun k=>k<=List.length l/\idxR (fun a=>je (Qn.q a)) l 0=idxR (fun a=>je (Qn.q a)) (List.drop k l) k) (fun k=>List.length l-k) 0 Z ?_ (sb Z Z Z) ?_))
 · exact⟨zw _,rfl⟩
 intro k hI0
 refine Cp Z Z (fun h1=>?_) (fun h1=>?_)
 ·refine E Z (B.idx (z:=frZ) (i:=k) Z Z kf kr (fun _=>rfl) Z aa) (C Z (w181 (l.getD k frZ) (hz _ (jf aa))) Z Z Z (Cb Z Z (fun h2=>?_) (fun h2=>?_)))
  ·exact Rt Z (leaf (val0:=vI ((k:Nat):Int)) ae (li bM))
  refine E Z (B.add Z Z bj) (pk Z (L1 (k+1) ?_ ?_ (sb Z Z Z)))
  · (exact⟨aa,by rw[hI0.2];exact ix_step aa ab⟩)
  · omega
 exact Rt Z (leaf (val0:=vI (-1)) ae (li bM))
theorem w202 (hp:qX) (l:List Qn) (hl:List.length l<=1000000) (hz:(∀ a∈l,sz (Qn.q a)<=62)):CKa 202 [vL eF l,.pv (.fn (.func 181) [] [])] (vB (List.any l (fun a=>je (Qn.q a)))):=by
 exact cG qf202 Z (nB Z) Z (C Z (w256 hp l hl hz) Z Z Z (Rt Z (leaf (val0:=vB (decide (0<=(idxR (fun a=>je (Qn.q a)) l 0)))) ae (lb (by exact ix_any)))))
theorem w131 (hp:qX) (l:List Qn) (hl:List.length l<=1000000) (hz:(∀ a∈l,sz (Qn.q a)<=62)):CKa 131 [vL eF l] (.tup [vL eN (jZ l),vI (jh l)]):=by
 refine cG qf131 Z (nB Z) Z (E Z (B.kg (enc:=eN) Z) (C Z (w202 hp l hl hz) Z Z Z (Cb Z Z (fun h1=>?_) (fun h1=>?_))))
 ·exact E Z (B.kg (enc:=eN) Z) (Rt Z (leaf (val0:=.tup [vL eN [],vI 4]) ae (kh (lsl bN) (li bN))))
 exact C Z (w203 hp l hl hz) Z Z Z (Rt Z (leaf (val0:=.tup [vL eN (List.map (fun a=>txt (Qn.q a)) l),vI 0]) ae (kh (lsl bN) (li bN))))
theorem w227 (l:List (List UInt8)) (hl:List.length l<=1000000) (hs:∀ s∈l,List.length s<=18):CKa 227 [vL eN l,.pv (.fn (.func 112) [] [])] (vI (jn jg l)):=by
 refine cG qf227 Z (nB Z) Z (E Z (B.jW Z un61) (l1 (fun (k:Nat)=>[(1,.pv (.fn (.func 112) [] [])),(8,vL eN l),(9,vI ((l.length:Nat):Int)),(10,vI ((k:Nat):Int))]) (fun _=>[]) (fun k=>k<=List.length l/\jn jg l=jn jg (List.drop k l)) (fun k=>List.length l-k) 0 Z ?_ (sb Z Z Z) ?_))
 · exact⟨zw _,rfl⟩
 intro k hI0
 refine Cp Z Z (fun h1=>?_) (fun h1=>?_)
 ·refine E Z (B.idx (z:=[]) (i:=k) Z Z un61 sz33 (fun _=>rfl) Z aa) (C Z (w112 (l.getD k []) (hs _ (jf aa))) Z Z Z (Cp Z Z (fun h2=>?_) (fun h2=>?_)))
  ·exact Rt Z (leaf (val0:=vI (jg (l.getD k []))) ae (li bO))
  refine E Z (B.add Z Z bj) (pk Z (L1 (k+1) ?_ ?_ (sb Z Z Z)))
  · (exact⟨aa,by rw[hI0.2];exact ea_step aa ab⟩)
  · omega
 exact Rt Z (leaf (val0:=vI 0) ae (li bO))
theorem w172 (l:List (List UInt8)) (hl:List.length l<=1000000) (hs:∀ s∈l,List.length s<=18):CKa 172 [vL eN l] (vI (chkV l)):=by
 exact cG qf172 Z (nB Z) Z (E Z (B.jW Z un61) (C Z (w99 (decide (256<((l.length:Nat):Int))) 5) Z Z Z (C Z (w227 l hl hs) Z Z Z (E Z (B.ja (val:=.pv (.slice (List.map eI [(qR (decide (256<((l.length:Nat):Int))) 5),(jn jg l)]))) Z (fun l=>Frz.arr l _ _ _ _ _) Z) (C Z (w98 [(qR (decide (256<((l.length:Nat):Int))) 5),(jn jg l)] (zZ Z)) Z Z Z (Rt Z (leaf (val0:=vI (qB [(qR (decide (256<((l.length:Nat):Int))) 5),(jn jg l)])) ae (li bi))))))))
theorem w148 (l:List (List UInt8)) (hl:List.length l<=1000000) (hs:∀ s∈l,List.length s<=18):CKa 148 [vL eN l] (vI (chkP l)):=by
 exact cG qf148 Z (nB Z) Z (C Z (w172 l hl hs) Z Z Z (E Z (B.jW Z un61) (C Z (w99 (decide (((l.length:Nat):Int)=0)) 12) Z Z Z (E Z (B.ja (val:=.pv (.slice (List.map eI [(chkV l),(qR (decide (((l.length:Nat):Int)=0)) 12)]))) Z (fun l=>Frz.arr l _ _ _ _ _) Z) (C Z (w98 [(chkV l),(qR (decide (((l.length:Nat):Int)=0)) 12)] (zZ Z)) Z Z Z (Rt Z (leaf (val0:=vI (qB [(chkV l),(qR (decide (((l.length:Nat):Int)=0)) 12)])) ae (li bi))))))))
theorem w174 (l:List (List UInt8)) (hl:List.length l<=1000000) (hv:∀ s∈l,jg s=0):qD Tryz.prog 174 [vL eN l] (qw []) (.aref 3008 0) [(3008,.arr 0 4 156 (List.map eF (List.map qJ l)))]:=by
 refine cL 3000 [] qf174 Z (nB Z) Z Z (kc (E Z (B.kg (enc:=eF) Z) (E Z (B.jW Z un61) (E Z (B.makeSl (enc:=eG) (sz:=4) (z0:=none) (n:=(l.length)) (m:=(l.length)) Z Z Z kf in156 Z Z Z by156 aa Z Z) (E Z (B.jW Z un61) (l2 (fun (k:Nat) (o:List (Option Qn))=>[(3,.aref 3008 0),(9,vL eN l),(10,vI ((l.length:Nat):Int)),(11,vI ((k:Nat):Int))]) (fun _ o=>[(3008,.arr 0 4 156 (List.map eG o))]) (fun k o=>k<=List.length l/\o=List.map (fun s=>some (qJ s)) (List.take k l)++List.replicate (l.length-k) none) (fun k _=>List.length l-k) 0 (List.replicate (l.length) none) Z ?_ (sb Z Z Z) ?_))))))
 · exact⟨zw _,rfl⟩
 intro k o hI0
 have hol:List.length o=List.length l:=by rw[hI0.2];simp;omega
 refine Cp Z Z (fun h1=>?_) (fun h1=>?_)
 ·refine E Z (B.idx (z:=[]) (i:=k) Z Z un61 sz33 (fun _=>rfl) Z aa) (C Z (w116 (l.getD k []) (hv _ (jf aa))) Z Z Z (E Z (B.idxE (n:=k) Z Z Z kf kr Z aa) (E Z (B.setA (z0:=(some (qJ (l.getD k [])))) Z Z Z Z kr aa (fun a=>by cases a<;>rfl)) (E Z (B.add Z Z bj) (pk Z (L2 (k+1) (List.set o k (some (qJ (l.getD k [])))) ?_ ?_ (sb Z Z Z)))))))
  · exact⟨aa,va_step hI0.2 aa⟩
  · omega
 refine Rt Z ?_
 exact q5 (val0:=.aref 3008 0) (out0:=[(3008,.arr 0 4 156 (List.map eG o))]) (.inr Z) ae Z (by rw[hI0.2];exact va_end aa)
def jF:List Qn->List Qn->Qn->Qn
 | a::l,b::m,s=>jF l m (Qn.add s (Qn.mul a b))
 | _,_,s=>s
def DotOk (x y:List Qn) (s:Qn):Prop:=∀ k,k<x.length->sz (Qn.q (jF (x.take k) (y.take k) s))<=31/\sz (Qn.q (x.getD k frZ))+sz (Qn.q (y.getD k frZ))<=31
section
variable {x y:List Qn} {s r:Qn} {k:Nat}
theorem do_2 (hz:DotOk x y s) (hk:k<x.length):sz (Qn.q (x.getD k frZ))+sz (Qn.q (y.getD k frZ))<=62:=by have:=(hz k hk).2;omega
theorem do_1 (hz:DotOk x y s) (hk:k<x.length) (h:r=jF (x.take k) (y.take k) s):sz (Qn.q r)+sz (Qn.q (Qn.mul (x.getD k frZ) (y.getD k frZ)))<=62:=by
 obtain⟨h1,h2⟩:=hz k hk
 rw[<-h] at h1
 rw[Qn.j6]
 have:=sz_mul (Qn.q (x.getD k frZ)) (Qn.q (y.getD k frZ))
 omega
theorem dotQ_app (l m:List Qn) (a b:Qn) (h:l.length=m.length):jF (l++[a]) (m++[b]) s=Qn.add (jF l m s) (Qn.mul a b):=by
 induction l generalizing m s with
 | nil=>cases m with
  | nil=>rfl
  | cons=>simp at h
 | cons c l ih=>cases m with
  | nil=>simp at h
  | cons d m=>exact ih m ai
theorem do_st (hl:x.length=y.length) (hk:k<x.length) (h:r=jF (x.take k) (y.take k) s) :
  Qn.add r (Qn.mul (x.getD k frZ) (y.getD k frZ))=jF (x.take (k+1)) (y.take (k+1)) s:=by
 have hk':k<y.length:=aa
 rw[List.take_succ_eq_append_getElem hk,List.take_succ_eq_append_getElem hk',dotQ_app _ _ _ _ aJ,<-h,ze,zm hk,ze,zm hk']
 rfl
end
def Zm (v:List Qn) (y:Qn) (b:List Qn):List Qn:=List.zipWith (fun a c=>Qn.sub a (Qn.mul y c)) v b
def LessOk (v:List Qn) (y:Qn) (b:List Qn):Prop:=∀ k,k<v.length->sz (Qn.q (v.getD k frZ))+sz (Qn.q y)+sz (Qn.q (b.getD k frZ))<=62
section
variable {v b o:List Qn} {y:Qn} {k:Nat}
theorem le_2 (hz:LessOk v y b) (hk:k<v.length):sz (Qn.q y)+sz (Qn.q (b.getD k frZ))<=62:=by have:=hz k hk;omega
theorem le_len (hl:v.length=b.length) (h:o=Zm (v.take k) y (b.take k)++v.drop k) (hk:k<=v.length):o.length=v.length:=by
 rw[h,Zm];simp;omega
theorem le_get (hl:v.length=b.length) (h:o=Zm (v.take k) y (b.take k)++v.drop k) (hk:k<v.length):o.getD k frZ=v.getD k frZ:=by
 have e:(Zm (v.take k) y (b.take k)).length=k:=by rw[Zm];simp;omega
 rw[h,ze,qa aa,e,Nat.sub_self,List.getElem?_drop,Nat.add_zero,<-ze]
theorem le_1 (hz:LessOk v y b) (hl:v.length=b.length) (hk:k<v.length) (h:o=Zm (v.take k) y (b.take k)++v.drop k):sz (Qn.q (o.getD k frZ))+sz (Qn.q (Qn.mul y (b.getD k frZ)))<=62:=by
 rw[le_get hl h hk,Qn.j6]
 have:=sz_mul (Qn.q y) (Qn.q (b.getD k frZ))
 have:=hz k hk;omega
theorem le_st (hl:v.length=b.length) (hk:k<v.length) (h:o=Zm (v.take k) y (b.take k)++v.drop k) :
  o.set k (Qn.sub (o.getD k frZ) (Qn.mul y (b.getD k frZ)))=Zm (v.take (k+1)) y (b.take (k+1))++v.drop (k+1):=by
 have hk':k<b.length:=aa
 have e:(Zm (v.take k) y (b.take k)).length=k:=by rw[Zm];simp;omega
 rw[le_get hl h hk,h,List.set_append_right _ _ aa,e,Nat.sub_self,drop_at v k frZ hk,List.set_cons_zero,List.take_succ_eq_append_getElem hk,List.take_succ_eq_append_getElem hk']
 unfold Zm
 rw[List.zipWith_append aJ,z8,ze,zm hk,ze,zm hk']
 rfl
theorem le_end (hl:v.length=b.length) (h:o=Zm (v.take k) y (b.take k)++v.drop k) (hk:v.length<=k):o=Zm v y b:=by
 rw[h,zB hk,zB aa,zW hk,zS]
end
theorem w211 (x y:List Qn) (s:Qn) (hl:List.length x=List.length y) (hm:List.length x<=1000000) (hz:DotOk x y s):CKa 211 [vL eF x,vL eF y,.pv (.agg [pI (Qn.n s),.lit (.slice none 0 0),pI (Qn.d s),.lit (.slice none 0 0)]),.pv (.fn (.func 125) [] []),.pv (.fn (.func 126) [] [])] (.pv (.agg [pI (Qn.n (jF x y s)),.lit (.slice none 0 0),pI (Qn.d (jF x y s)),.lit (.slice none 0 0)])):=by
 refine cG qf211 Z (nB Z) Z (E Z (B.ja Z (fun l=>Frz.jU l Z) Z) (E Z (B.jW Z kf) (l2 (fun (k:Nat) (r:Qn)=>[(0,vL eF x),(1,vL eF y),(3,.pv (.fn (.func 125) [] [])),(4,.pv (.fn (.func 126) [] [])),(7,.bref 8 0),(10,.bref 11 0),(13,vI ((x.length:Nat):Int)),(14,vI ((k:Nat):Int))]) (fun _ r=>[(8,.box 156 [vI (Qn.n r),.pv (.lit (.slice none 0 0)),vI (Qn.d r),.pv (.lit (.slice none 0 0))]),(11,.box 156 [vI 0,.pv (.lit (.slice none 0 0)),vI 0,.pv (.lit (.slice none 0 0))])]) (fun k r=>k<=List.length x/\r=jF (List.take k x) (List.take k y) s) (fun k _=>List.length x-k) 0 s Z ?_ (sb Z Z Z) ?_)))
 · exact⟨zw _,rfl⟩
 intro k r hI0
 refine Cp Z Z (fun h1=>?_) (fun h1=>?_)
 ·refine E Z (B.idx (z:=frZ) (i:=k) Z Z kf kr (fun _=>rfl) Z aa) (E Z (B.idx (z:=frZ) (i:=k) Z Z kf kr (fun _=>rfl) Z aa) (C Z (w126 (x.getD k frZ) (y.getD k frZ) (do_2 hz aa)) Z Z Z (C Z (w125 r (Qn.mul (x.getD k frZ) (y.getD k frZ)) (do_1 hz aa hI0.2)) Z Z Z (Dr Z ae (E Z (B.add Z Z bj) (pk Z (L2 (k+1) (Qn.add r (Qn.mul (x.getD k frZ) (y.getD k frZ))) ?_ ?_ (sb Z Z Z))))))))
  · exact⟨aa,do_st hl aa hI0.2⟩
  · omega
 refine Rt Z ?_
 exact leaf (val0:=.pv (.agg [pI (Qn.n r),.lit (.slice none 0 0),pI (Qn.d r),.lit (.slice none 0 0)])) ae (by rw[hI0.2,zB aa,zB aa])
theorem w144 (x y:List Qn) (hl:List.length x=List.length y) (hm:List.length x<=1000000) (hz:DotOk x y frZ):CKa 144 [vL eF x,vL eF y] (.pv (.agg [pI (Qn.n (jF x y frZ)),.lit (.slice none 0 0),pI (Qn.d (jF x y frZ)),.lit (.slice none 0 0)])):=by
 refine cG qf144 Z (nB Z) Z (E Z (B.ja Z (fun l=>Frz.jU l Z) Z) (C Z (w100 0 bj) Z Z Z (C Z (w211 x y frZ hl hm hz) Z Z Z ?_)))
 refine Rt Z ?_
 exact leaf (val0:=.pv (.agg [pI (Qn.n (jF x y frZ)),.lit (.slice none 0 0),pI (Qn.d (jF x y frZ)),.lit (.slice none 0 0)])) ae bi
theorem w143 (v:List Qn) (y:Qn) (b:List Qn) (hl:List.length v=List.length b) (hm:List.length v<=1000000) (hz:LessOk v y b):CKa 143 [vL eF v,.pv (.agg [pI (Qn.n y),.lit (.slice none 0 0),pI (Qn.d y),.lit (.slice none 0 0)]),vL eF b] (vL eF (Zm v y b)):=by
 refine cG qf143 Z (nB Z) Z (E Z (B.kg (enc:=eF) Z) (E Z (B.jW Z kf) (E Z (B.makeSl (enc:=eG) (sz:=4) (z0:=none) (n:=(v.length)) (m:=(v.length)) Z Z Z kf in156 Z Z Z by156 aa Z Z) (E Z (B.copyE Z Z Z ao kf kr rfl (fun _=>rfl)) (E rfl (B.lenA rfl rfl kf) (l2 (fun (k:Nat) (o:List Qn)=>[(2,vL eF b),(4,.bref 5 0),(7,.aref 12 0),(16,vI ((v.length:Nat):Int)),(17,vI ((k:Nat):Int))]) (fun _ o=>[(5,.box 156 [vI (Qn.n y),.pv (.lit (.slice none 0 0)),vI (Qn.d y),.pv (.lit (.slice none 0 0))]),(12,.arr 0 4 156 (List.map eF o))]) (fun k o=>k<=List.length v/\o=Zm (List.take k v) y (List.take k b)++List.drop k v) (fun k _=>List.length v-k) 0 v rfl ?_ (sb rfl rfl rfl) ?_))))))
 · exact⟨zw _,rfl⟩
 intro k o hI0
 have hol:List.length o=List.length v:=le_len hl hI0.2 aa
 refine Cp Z Z (fun h1=>?_) (fun h1=>?_)
 ·refine E Z (B.idxE (n:=k) Z Z Z kf kr Z aa) (E Z (B.loadEA (enc:=eF) (l:=o) (n:=k) (z0:=frZ) Z Z ag156 kr aa Z) (E Z (B.idx (z:=frZ) (i:=k) Z Z kf kr (fun _=>rfl) Z aa) (C Z (w126 y (b.getD k frZ) (le_2 hz aa)) Z Z Z (C Z (w210 (o.getD k frZ) (Qn.mul y (b.getD k frZ)) (le_1 hz hl aa hI0.2)) Z Z Z (E Z (B.idxE (n:=k) Z Z Z kf kr Z aa) (E Z (B.setA (z0:=(Qn.sub (o.getD k frZ) (Qn.mul y (b.getD k frZ)))) Z Z Z Z kr aa (fun _=>rfl)) (Dr Z ae (E Z (B.add Z Z bj) (pk Z (L2 (k+1) (List.set o k (Qn.sub (o.getD k frZ) (Qn.mul y (b.getD k frZ)))) ?_ ?_ (sb Z Z Z)))))))))))
  · exact⟨aa,le_st hl aa hI0.2⟩
  · omega
 exact Fz 9999 6 Z Z Z (Rt Z (leaf (val0:=vL eF o) ae (lsl (by exact le_end hl hI0.2 aa))))
def Qn.ofN (n:Nat):Qn:=⟨((n:Int):Rat)⟩
theorem w100n (n:Nat) (h:n<=1000000):CKa 100 [vI (n:Int)] (.pv (.agg [pI (Qn.n (Qn.ofN n)),jl,pI (Qn.d (Qn.ofN n)),jl])):=w100 _ bj
theorem ofN_q {n:Nat} (_:n<=1000000):(Qn.ofN n).q=(n:Rat):=rfl
def Qn.dv (x y:Qn):Qn:=⟨x.q / y.q⟩
theorem w128d (x y:Qn) (hs:sz (Qn.q x)+sz (Qn.q y)<=62) (h:y.q≠0):CKa 128 [.pv (.agg [pI (Qn.n x),jl,pI (Qn.d x),jl]),.pv (.agg [pI (Qn.n y),jl,pI (Qn.d y),jl])] (.pv (.agg [pI (Qn.n (Qn.dv x y)),jl,pI (Qn.d (Qn.dv x y)),jl])):=w128 x y hs h
theorem w128e (x y:Qn) (hs:DvK x y) (h:y.q≠0):CKa 128 [.pv (.agg [pI (Qn.n x),jl,pI (Qn.d x),jl]),.pv (.agg [pI (Qn.n y),jl,pI (Qn.d y),jl])] (.pv (.agg [pI (Qn.n (Qn.dv x y)),jl,pI (Qn.d (Qn.dv x y)),jl])):=w128x x y hs h
theorem Qn.dv_q {x y:Qn}:(Qn.dv x y).q=x.q / y.q:=rfl
theorem ofN_ne {n:Nat} (h0:0<n) (h:n<=1000000):(Qn.ofN n).q≠0:=by
 rw[ofN_q h]
 intro h1
 have h2:((n:Nat):Rat)=((0:Nat):Rat):=h1
 have:=Rat.natCast_inj.1 h2
 omega
def sumQ (l:List Qn) (s:Qn):Qn:=l.foldl Qn.add s
def pisQ (l:List Qn):Qn:=Qn.dv (sumQ l frZ) (Qn.ofN l.length)
def js (l:List Qn):List Qn:=l.map (fun a=>Qn.sub a (pisQ l))
def kZ (l:List Qn):Prop:=∀ k,k<=l.length->sz (Qn.q (sumQ (l.take k) frZ))<=20/\sz (Qn.q (l.getD k frZ))<=20
def flatS (l:List Qn) (p:Qn) (k:Nat):List Qn:=(l.take k).map (fun a=>Qn.sub a p)++l.drop k
section
variable {l o:List Qn} {r p:Qn} {k:Nat}
theorem fl_st (hk:k<l.length) (h:r=sumQ (l.take k) frZ):Qn.add r (l.getD k frZ)=sumQ (l.take (k+1)) frZ:=by
 rw[List.take_succ_eq_append_getElem hk,sumQ,List.foldl_append,h,ze,zm hk];rfl
theorem fl_1 (hz:kZ l) (hk:k<l.length) (h:r=sumQ (l.take k) frZ):sz (Qn.q r)+sz (Qn.q (l.getD k frZ))<=62:=by
 have:=(hz k aa).1
 have:=(hz k aa).2
 rw[h];omega
theorem ofN_sz {n:Nat} (h:n<=1000000):sz (Qn.q (Qn.ofN n))<=20:=by
 rw[ofN_q h]
 have e:((n:Nat):Rat)=(((n:Nat):Int):Rat):=rfl
 have:=sz_int ((n:Nat):Int)
 have hb:jk (((n:Nat):Int)).natAbs<=20:=by
  rw[Int.natAbs_natCast]
  exact jb (Nat.lt_of_le_of_lt h ah)
 rw[e];omega
theorem fl_2 (hz:kZ l) (hm:l.length<=1000000):sz (Qn.q (sumQ l frZ))+sz (Qn.q (Qn.ofN l.length))<=62:=by
 have:=(hz l.length (zC _)).1
 rw[zB (zC _)] at this
 have:=ofN_sz hm
 omega
theorem fl_2d (hz:kZ l) (hm:l.length<=1000000) (h:r=sumQ (l.take k) frZ) (hk:l.length<=k):sz (Qn.q r)+sz (Qn.q (Qn.ofN l.length))<=62:=by
 rw[h,zB hk];exact fl_2 hz hm
theorem fs_len (h:o=flatS l p k) (hk:k<=l.length):o.length=l.length:=by
 rw[h,flatS];simp;omega
theorem fs_get (h:o=flatS l p k) (hk:k<l.length):o.getD k frZ=l.getD k frZ:=by
 rw[h,flatS,ze,qa aJ]
 have e:k-((l.take k).map (fun a=>Qn.sub a p)).length=0:=by simp;omega
 rw[e,List.getElem?_drop,Nat.add_zero,<-ze]
theorem fl_3 (hz:kZ l) (hk:k<l.length) (h:o=flatS l (Qn.dv r (Qn.ofN l.length)) k) (hr:r=sumQ l frZ) (hm:l.length<=1000000) :
  sz (Qn.q (o.getD k frZ))+sz (Qn.q (Qn.dv r (Qn.ofN l.length)))<=62:=by
 rw[fs_get h hk,Qn.dv_q,hr]
 have:=sz_div (Qn.q (sumQ l frZ)) (Qn.q (Qn.ofN l.length))
 have:=(hz l.length (zC _)).1
 rw[zB (zC _)] at this
 have:=ofN_sz hm
 have:=(hz k aa).2
 omega
theorem fs_st (hk:k<l.length) (h:o=flatS l p k):o.set k (Qn.sub (o.getD k frZ) p)=flatS l p (k+1):=by
 have e:((l.take k).map (fun a=>Qn.sub a p)).length=k:=by simp;omega
 rw[fs_get h hk,h,flatS,List.set_append_right _ _ aa,e,Nat.sub_self,drop_at l k frZ hk,List.set_cons_zero,flatS,List.take_succ_eq_append_getElem hk,qc,z8,ze,zm hk]
 rfl
theorem fl_end (hk:l.length<=k):DV.tup [vL eF (flatS l (Qn.dv (sumQ l frZ) (Qn.ofN l.length)) k),.pv (.agg (eF (Qn.dv (sumQ l frZ) (Qn.ofN l.length))))]=.tup [vL eF (js l),.pv (.agg (eF (pisQ l)))]:=by
 rw[flatS,zB hk,zW hk,zS];rfl
end
section
variable {l:List (List UInt8)} {v:List Qn}
theorem firstP_2 {a b:Int} (h:qB [a,b]=0):a=0/\b=0:=by
 simp only[qB] at h
 by_cases ha:a=0
 ·subst ha
  by_cases hb:b=0
  ·exact⟨rfl,hb⟩
  simp[hb] at h
 simp[ha] at h
theorem eachE_0 {α:Type} {f:α->Int} {l:List α} (h:jn f l=0):∀ a∈l,f a=0:=by
 induction l with
 | nil=>intro a ha;cases ha
 | cons b l ih=>
  intro a ha
  rw[jn] at h
  by_cases hb:f b=0
  ·rw[if_pos hb] at h
   rcases zG.1 ha with rfl|ha
   ·exact hb
   exact ih h a ha
  rw[if_neg hb] at h;exact absurd h hb
theorem chkP_0 (h:chkP l=0):0<l.length/\l.length<=256/\∀ s∈l,jg s=0:=by
 obtain⟨h1,h2⟩:=firstP_2 h
 obtain⟨h3,h4⟩:=firstP_2 h1
 refine⟨?_,?_,eachE_0 h4⟩
 ·by_cases h0:l.length=0
  ·rw[h0] at h2;exact absurd h2 ah
  omega
 by_cases h0:l.length<=256
 ·exact h0
 rw[show decide (256<((l.length:Nat):Int))=true from zl aa] at h3;exact absurd h3 ah
theorem fl_ok (h:¬chkP l≠0) (hz:chkP l=0->kZ (List.map qJ l)):0<List.length (List.map qJ l)/\List.length (List.map qJ l)<=256/\(∀ s∈l,jg s=0)/\kZ (List.map qJ l):=by
 have h0:chkP l=0:=zi.1 h
 obtain⟨h1,h2,h3⟩:=chkP_0 h0
 exact⟨by simpa using h1,by simpa using h2,h3,hz h0⟩
theorem fq_len:(js v).length=v.length:=by unfold js;simp
theorem fa_len2:(js v++[pisQ v]).length=v.length+1:=by simp[fq_len]
theorem fa_len (h:v.length<=256):(js v++[pisQ v]).length<=1000000:=by simp[fq_len];omega
theorem pis_sz (h:v.length<=256) (hz:kZ v):sz (Qn.q (pisQ v))<=40:=by
 unfold pisQ
 rw[Qn.dv_q]
 have:=sz_div (Qn.q (sumQ v frZ)) (Qn.q (Qn.ofN v.length))
 have:=(hz v.length (zC _)).1
 rw[zB (zC _)] at this
 have:=ofN_sz (n:=v.length) aa
 omega
theorem fq_sz (h:v.length<=256) (hz:kZ v):∀ a∈js v,sz (Qn.q a)<=61:=by
 intro a ha
 obtain⟨c,hc,rfl⟩:=zF.1 ha
 obtain⟨i,hi,rfl⟩:=List.mem_iff_getElem.1 hc
 have h1:=(hz i aa).2
 rw[ze,zm hi] at h1
 simp only[zQ] at h1
 rw[Qn.sub_q]
 have:=sz_sub (Qn.q v[i]) (Qn.q (pisQ v))
 have:=pis_sz h hz
 omega
theorem fa_sz (h:v.length<=256) (hz:kZ v):∀ a∈js v++[pisQ v],sz (Qn.q a)<=62:=by
 intro a ha
 rcases zI.1 ha with ha|ha
 ·have:=fq_sz h hz a ha;omega
 rw[zg.1 ha];have:=pis_sz h hz;omega
def flW (l:List (List UInt8)):List Qn:=js (List.map qJ l)++[pisQ (List.map qJ l)]
def flE (l:List (List UInt8)):Int:=if chkP l≠0 then chkP l else jh (flW l)
def flT (l:List (List UInt8)):List (List UInt8):=if flE l≠0 then [] else (jZ (flW l)).take (js (List.map qJ l)).length
def flP (l:List (List UInt8)):List UInt8:=if flE l≠0 then [] else (jZ (flW l)).getD (js (List.map qJ l)).length []
theorem fl_a (h:chkP l≠0):flE l=chkP l:=by unfold flE;rw[if_pos h]
theorem fl_b (h:¬chkP l≠0):flE l=jh (flW l):=by unfold flE;rw[if_neg h]
theorem fl_t1 (h:chkP l≠0):[]=flT l:=by unfold flT;rw[fl_a h,if_pos h]
theorem fl_p1 (h:chkP l≠0):[]=flP l:=by unfold flP;rw[fl_a h,if_pos h]
theorem fl_t2 (h:¬chkP l≠0) (h2:jh (flW l)≠0):[]=flT l:=by unfold flT;rw[fl_b h,if_pos h2]
theorem fl_p2 (h:¬chkP l≠0) (h2:jh (flW l)≠0):[]=flP l:=by unfold flP;rw[fl_b h,if_pos h2]
theorem fl_t3 (h:¬chkP l≠0) (h2:¬jh (flW l)≠0):(jZ (flW l)).take (js (List.map qJ l)).length=flT l:=by unfold flT;rw[fl_b h,if_neg h2]
theorem fl_p3 (h:¬chkP l≠0) (h2:¬jh (flW l)≠0):(jZ (flW l)).getD (js (List.map qJ l)).length []=flP l:=by unfold flP;rw[fl_b h,if_neg h2]
theorem fl_e3 (h:¬chkP l≠0) (h2:¬jh (flW l)≠0):0=flE l:=by rw[fl_b h];exact (zi.1 h2).symm
theorem rt_len {w:List Qn} (h:¬jh w≠0):(jZ w).length=w.length:=by
 have h0:jh w=0:=zi.1 h
 unfold jh at h0
 unfold jZ
 cases hb:w.any (fun a=>je (Qn.q a)) with
 | true=>rw[hb] at h0;exact absurd h0 ah
 | false=>simp
def vaQ (v:List Qn):Qn:=Qn.dv (jF (js v) (js v) frZ) (Qn.ofN (js v).length)
theorem va_1 {d:Qn} (hg:(js v).length=v.length) (h:v.length<=256) (hd:sz (Qn.q d)<=31):sz (Qn.q d)+sz (Qn.q (Qn.ofN (js v).length))<=62:=by
 have:=ofN_sz (n:=(js v).length) aa
 omega
theorem va_2 (h:v.length<=256) (hd:sz (Qn.q (jF (js v) (js v) frZ))<=31):sz (Qn.q (vaQ v))<=62:=by
 unfold vaQ
 rw[Qn.dv_q]
 have:=sz_div (Qn.q (jF (js v) (js v) frZ)) (Qn.q (Qn.ofN (js v).length))
 have:=va_1 fq_len h hd
 omega
def vaE (l:List (List UInt8)):Int:=if chkP l≠0 then chkP l else resE (Qn.q (vaQ (List.map qJ l)))
def vaT (l:List (List UInt8)):List UInt8:=if chkP l≠0 then [] else resT (Qn.q (vaQ (List.map qJ l)))
theorem va_t1 (h:chkP l≠0):[]=vaT l:=by unfold vaT;rw[if_pos h]
theorem va_e1 (h:chkP l≠0):vaE l=chkP l:=by unfold vaE;rw[if_pos h]
theorem va_t2 (h:¬chkP l≠0):resT (Qn.q (vaQ (List.map qJ l)))=vaT l:=by unfold vaT;rw[if_neg h]
theorem va_e2 (h:¬chkP l≠0):vaE l=resE (Qn.q (vaQ (List.map qJ l))):=by unfold vaE;rw[if_neg h]
end
theorem w149 (l:List (List UInt8)) (hn:0<List.length (List.map qJ l)) (hm:List.length (List.map qJ l)<=1000000) (hl:List.length l<=1000000) (hv:∀ s∈l,jg s=0) (hz:kZ (List.map qJ l)):CKa 149 [vL eN l] (.tup [vL eF (js (List.map qJ l)),.pv (.agg [pI (Qn.n (pisQ (List.map qJ l))),.lit (.slice none 0 0),pI (Qn.d (pisQ (List.map qJ l))),.lit (.slice none 0 0)])]):=by
 refine cG qf149 Z (nB Z) Z (E Z (B.kg (enc:=eF) Z) (E Z (B.ja Z (fun l=>Frz.jU l Z) Z) (E Z (B.q6 (l:=[]) (w174 l hl hv) Z Z trivial Z Z) (C Z (w100 0 bj) Z Z Z (E Z (B.ja Z (fun l=>Frz.jU l Z) Z) (E Z (B.lenA Z Z kf) (l2 (fun (k:Nat) (r:Qn)=>[(3,.bref 4 0),(4,.aref 3008 0),(5,.bref 6 0),(12,.aref 3008 0),(13,vI ((List.length (List.map qJ l):Nat):Int)),(14,vI ((k:Nat):Int))]) (fun _ r=>[(4,.box 156 [vI 0,.pv (.lit (.slice none 0 0)),vI 0,.pv (.lit (.slice none 0 0))]),(6,.box 156 [vI (Qn.n r),.pv (.lit (.slice none 0 0)),vI (Qn.d r),.pv (.lit (.slice none 0 0))]),(3008,.arr 0 4 156 (List.map eF (List.map qJ l)))]) (fun k r=>k<=List.length (List.map qJ l)/\r=sumQ (List.take k (List.map qJ l)) frZ) (fun k _=>List.length (List.map qJ l)-k) 0 frZ Z ?_ (sb Z Z Z) ?_)))))))
 · exact⟨zw _,rfl⟩
 intro k r hI0
 refine Cp Z Z (fun h1=>?_) (fun h1=>?_)
 ·refine E Z (B.idxE (n:=k) Z Z Z kf kr Z aa) (E Z (B.loadEA (enc:=eF) (l:=(List.map qJ l)) (n:=k) (z0:=frZ) Z Z ag156 kr aa Z) (E Z (B.ja Z (fun l=>Frz.jU l Z) Z) (C Z (w125 r (List.getD (List.map qJ l) k frZ) (fl_1 hz aa hI0.2)) Z Z Z (E Z (B.add Z Z bj) (pk Z (L2 (k+1) (Qn.add r (List.getD (List.map qJ l) k frZ)) ?_ ?_ (sb Z Z Z)))))))
  · exact⟨aa,fl_st aa hI0.2⟩
  · omega
 refine E Z (B.lenA Z Z kf) (C Z (w100n (List.length (List.map qJ l)) aa) Z Z Z (C Z (w128d r (Qn.ofN (List.length (List.map qJ l))) (fl_2d hz hm hI0.2 aa) (ofN_ne hn hm)) Z Z Z (Dr Z ae (E Z (B.lenA Z Z kf) (l2 (fun (i:Nat) (o:List Qn)=>[(3,.bref 4 0),(4,.aref 3008 0),(5,.bref 6 0),(28,vI ((List.length (List.map qJ l):Nat):Int)),(29,vI ((i:Nat):Int))]) (fun _ o=>[(4,.box 156 [vI 0,.pv (.lit (.slice none 0 0)),vI 0,.pv (.lit (.slice none 0 0))]),(6,.box 156 [vI (Qn.n (Qn.dv r (Qn.ofN (List.length (List.map qJ l))))),.pv (.lit (.slice none 0 0)),vI (Qn.d (Qn.dv r (Qn.ofN (List.length (List.map qJ l))))),.pv (.lit (.slice none 0 0))]),(3008,.arr 0 4 156 (List.map eF o))]) (fun i o=>i<=List.length (List.map qJ l)/\o=flatS (List.map qJ l) (Qn.dv r (Qn.ofN (List.length (List.map qJ l)))) i) (fun i _=>List.length (List.map qJ l)-i) 0 (List.map qJ l) Z ?_ (sb Z Z Z) ?_)))))
 · exact⟨zw _,rfl⟩
 intro i o hI1
 have hol:=fs_len hI1.2 hI1.1
 have hr:r=sumQ (List.map qJ l) frZ:=by rw[hI0.2,zB aa]
 refine Cp Z Z (fun h2=>?_) (fun h2=>?_)
 ·refine E Z (B.idxE (n:=i) Z Z Z kf kr Z aa) (E Z (B.loadEA (enc:=eF) (l:=o) (n:=i) (z0:=frZ) Z Z ag156 kr aa Z) (C Z (w210 (o.getD i frZ) (Qn.dv r (Qn.ofN (List.length (List.map qJ l)))) (fl_3 hz aa hI1.2 hr hm)) Z Z Z (E Z (B.idxE (n:=i) Z Z Z kf kr Z aa) (E Z (B.setA (z0:=(Qn.sub (o.getD i frZ) (Qn.dv r (Qn.ofN (List.length (List.map qJ l)))))) Z Z Z Z kr aa (fun _=>rfl)) (Dr Z ae (E Z (B.add Z Z bj) (pk Z (L2 (i+1) (List.set o i (Qn.sub (o.getD i frZ) (Qn.dv r (Qn.ofN (List.length (List.map qJ l)))))) ?_ ?_ (sb Z Z Z)))))))))
  · exact⟨aa,fs_st aa hI1.2⟩
  · omega
 refine Fz 14 4 Z Z Z (Dr Z ae ?_)
 refine Rt Z ?_
 exact leaf (val0:=.tup [vL eF o,.pv (.agg [pI (Qn.n (Qn.dv r (Qn.ofN (List.length (List.map qJ l))))),.lit (.slice none 0 0),pI (Qn.d (Qn.dv r (Qn.ofN (List.length (List.map qJ l))))),.lit (.slice none 0 0)])]) ae (by rw[hI1.2,hr];exact fl_end aa)
theorem w150 (l:List Qn) (hn:0<List.length l) (hm:List.length l<=1000000):qD Tryz.prog 150 [vL eF l] (qw []) (.aref 3005 1) [(3005,.arr 1 4 156 (List.map eF l))]:=by
 refine cL 3000 [] qf150 Z (nB Z) Z Z (kc (E Z (B.kg (enc:=eF) Z) ?_))
 refine tk 1 Z ?_
 refine TK.nilM Z Z Z kf (fun h1=>?_) ?_
 ·refine pc (CT Z Z (E Z (B.kg (enc:=eF) Z) ?_))
  refine Rt Z ?_
  exact absurd (List.map_eq_nil_iff.1 h1) (List.ne_nil_of_length_pos hn)
 refine pc (CF Z Z (E Z (B.run Z) (E Z (B.append (enc:=eF) (l:=[]) (r:=l) Z Z Z kf in156 Z (fun _=>rfl) by156 (by simp only[zd];omega)) ?_)))
 refine Rt Z ?_
 exact q5 (val0:=.aref 3005 (0+1)) (out0:=[(3005,.arr (0+1) 4 156 (List.map eF l))]) (.inr Z) ae Z bi
theorem w52 (hp:qX) (l:List (List UInt8)) (hl:List.length l<=1000000) (hs:∀ s∈l,List.length s<=18) (hz:chkP l=0->kZ (List.map qJ l)):CKa 52 [vL eN l] (.tup [vL eN (flT l),vS (bsO (flP l)),vI (flE l)]):=by
 refine cG qf52 Z (nB Z) Z (E Z (B.kg (enc:=eN) Z) (C Z (w148 l hl hs) Z Z Z (Cp Z Z (fun h1=>?_) (fun h1=>?_))))
 ·exact E Z (B.kg (enc:=eN) Z) (Rt Z (leaf (val0:=.tup [vL eN [],vS (bsO []),vI (chkP l)]) ae (tup3 (lsl bP) (ls bP) (li bP))))
 have hf:=fl_ok ab hz
 have hg:=fq_len (v:=List.map qJ l)
 have hg2:=fa_len2 (v:=List.map qJ l)
 have hg3:List.length [pisQ (List.map qJ l)]=1:=rfl
 refine C Z (w149 l hf.1 (qh hf.2.1 ah) hl hf.2.2.1 hf.2.2.2) Z Z Z (E Z (B.ja Z (fun l=>Frz.jU l Z) Z) (E Z (B.q6 (l:=[]) (w150 (js (List.map qJ l)) (by rw[fq_len];exact hf.1) (by rw[fq_len];exact qh hf.2.1 ah)) Z Z trivial Z Z) (E Z (B.ja (val:=.pv (.slice (List.map eF [(pisQ (List.map qJ l))]))) Z (fun l=>Frz.arr l _ _ _ _ _) Z) (E Z (B.appendZ Z Z Z kf in156 Z (fun _=>rfl) by156 aa) (C Z (w131 hp ((js (List.map qJ l))++[(pisQ (List.map qJ l))]) (fa_len hf.2.1) (fa_sz hf.2.1 hf.2.2.2)) Z Z Z (Dr Z ae (Cp Z Z (fun h2=>?_) (fun h2=>?_))))))))
 ·exact E Z (B.kg (enc:=eN) Z) (Rt Z (leaf (val0:=.tup [vL eN [],vS (bsO []),vI (jh ((js (List.map qJ l))++[(pisQ (List.map qJ l))]))]) ae (tup3 (lsl bP) (ls bP) (li bP))))
 have hrl:=rt_len ab
 exact E Z (B.jW Z kf) (E Z (B.slT (j:=(List.length (js (List.map qJ l)))) Z Z un61 sz33 Z aa) (E Z (B.jW Z kf) (E Z (B.idx (z:=[]) (i:=(List.length (js (List.map qJ l)))) Z Z un61 sz33 (fun _=>rfl) Z aa) (Dr Z ae (Rt Z (leaf (val0:=.tup [vL eN (List.take (List.length (js (List.map qJ l))) (jZ ((js (List.map qJ l))++[(pisQ (List.map qJ l))]))),vS (bsO (List.getD (jZ ((js (List.map qJ l))++[(pisQ (List.map qJ l))])) (List.length (js (List.map qJ l))) [])),vI 0]) ae (tup3 (lsl bP) (ls bP) (li bP))))))))
theorem w53 (hp:qX) (l:List (List UInt8)) (hl:List.length l<=1000000) (hs:∀ s∈l,List.length s<=18) (hz:chkP l=0->kZ (List.map qJ l)) (hz2:chkP l=0->DotOk (js (List.map qJ l)) (js (List.map qJ l)) frZ/\sz (Qn.q (jF (js (List.map qJ l)) (js (List.map qJ l)) frZ))<=31):CKa 53 [vL eN l] (.tup [vS (bsO (vaT l)),vI (vaE l)]):=by
 refine cG qf53 Z (nB Z) Z (C Z (w148 l hl hs) Z Z Z (Cp Z Z (fun h1=>?_) (fun h1=>?_)))
 ·exact Rt Z (leaf (val0:=.tup [vS (bsO []),vI (chkP l)]) ae (kh (ls bR) (li bR)))
 have hf:=fl_ok ab hz
 have hg:=fq_len (v:=List.map qJ l)
 have hg2:=fa_len2 (v:=List.map qJ l)
 have hg3:List.length [pisQ (List.map qJ l)]=1:=rfl
 have hf0:chkP l=0:=zi.1 ab
 exact C Z (w149 l hf.1 (qh hf.2.1 ah) hl hf.2.2.1 hf.2.2.2) Z Z Z (E Z (B.ja Z (fun l=>Frz.jU l Z) Z) (C Z (w144 (js (List.map qJ l)) (js (List.map qJ l)) Z aa (hz2 hf0).1) Z Z Z (E Z (B.jW Z kf) (C Z (w100n (List.length (js (List.map qJ l))) aa) Z Z Z (C Z (w128d (jF (js (List.map qJ l)) (js (List.map qJ l)) frZ) (Qn.ofN (List.length (js (List.map qJ l)))) (va_1 hg hf.2.1 (hz2 hf0).2) (ofN_ne aa aa)) Z Z Z (C Z (w113 hp (vaQ (List.map qJ l)) (va_2 hf.2.1 (hz2 hf0).2)) Z Z Z (Rt Z (leaf (val0:=.tup [vS (bsO (resT (Qn.q (vaQ (List.map qJ l))))),vI (resE (Qn.q (vaQ (List.map qJ l))))]) ae (kh (ls bR) (li bR))))))))))
end Go.Lens.Tb
end
section
namespace Go.Lens
variable [Lz]
abbrev KI:=Int×Int
def kkV (k:KI):Value:=.agg #[.int .i64 k.1,.int .i64 k.2]
def kkP (k:KI):PV:=.agg [.lit (.int .i64 k.1),.lit (.int .i64 k.2)]
def Zk {α:Type} (k:KI) (v:α):List (KI×α)->List (KI×α)
 | []=>[(k,v)]
 | (a,x)::l=>if k=a then (a,v)::l else (a,x)::Zk k v l
def idxI {α:Type} (k:KI):Nat->List (KI×α)->Option Nat
 | _,[]=>none
 | j,(a,_)::l=>if k=a then some j else idxI k (j+1) l
def kj {α:Type} (k:KI):List (KI×α)->Option α
 | []=>none
 | (a,x)::l=>if k=a then some x else kj k l
def kvO {α:Type} (enc:α->PV) (l:List (KI×α)):List (PV×PV):=l.map fun p=>(kkP p.1,enc p.2)
abbrev kO {α:Type} (enc:α->PV) (l:List (KI×α)):MO:=.kmap (fun kv=>kv=kvO enc l)
theorem rel_kk {R:Rd} {k:KI} {v:Value} (h:qN R (kkP k) v):v=kkV k:=by
 simp only[kkP,qN,qy] at h
 obtain⟨vs,rfl,_,v1,l1,e1,⟨rfl,_⟩,v2,l2,e2,⟨rfl,_⟩,e3⟩:=h
 subst e3;subst e2
 have:vs= #[.int .i64 k.1,.int .i64 k.2]:=by rw[<-Array.toArray_toList (xs:=vs),e1]
 rw[this];rfl
theorem kk_rel {R:Rd} {k:KI}:qN R (kkP k) (kkV k):=by
 simp only[kkP,kkV,qN,qy]
 exact⟨_,rfl,by simp[Value.oneCell'],_,_,rfl,⟨rfl,rfl⟩,_,_,rfl,⟨rfl,rfl⟩,rfl⟩
theorem rel_keys {α:Type} {R:Rd} {enc:α->PV}:∀ {l:List (KI×α)} {es:List MapEntry},qy R ((kvO enc l).map (·.1)) (es.map (·.key))->es.map (·.key)=l.map fun p=>kkV p.1
 | [],es,h=>by simpa [kvO,qy] using h
 | p::l,es,h=>by
  simp only[kvO,zA,qy] at h
  obtain⟨v,vs,e,h1,h2⟩:=h
  cases es with
  | nil=>cases e
  | cons x es=>
   simp only[zA,List.cons.injEq] at e ⊢
   obtain⟨e1,e2⟩:=e
   refine⟨e1.trans (rel_kk h1),rel_keys (by rw[e2];exact h2)⟩
structure KTy (Y:Tab) (t kt et it:TypeId):Prop where
 u:Y.underlying t=some (.map kt et)
 k:Y.underlying kt=some (.array 2 it)
 i:Y.underlying it=some (.int .i64)
 a:aggT Y it=some false
 z:szT Y it=some 1
section
variable {P:Program} {Y:Tab} [qM P Y] {t kt et it:TypeId}
theorem run_part2 (hT:KTy Y t kt et it) (a b:Value) (w:World):(part it #[a,b] 0).run P w=.ok a w/\(part it #[a,b] 1).run P w=.ok b w:=by
 constructor<;>simp[part,qt,jS hT.a]
theorem run_checkK (hT:KTy Y t kt et it) (b:Bool) (k:KI) (w:World):(Instr.checkKey b 10000 kt (kkV k)).run P w=.ok () w:=by
 obtain⟨h1,h2⟩:=run_part2 (P:=P) hT (.int .i64 k.1) (.int .i64 k.2) w
 have hi:∀ (n:Nat) (x:Int),(Instr.checkKey b (n+1) it (.int .i64 x)).run P w=.ok () w:=fun n x=>by simp[Instr.checkKey,qI hT.i]
 have key:∀ n:Nat,(Instr.checkKey b (n+1+1) kt (kkV k)).run P w=.ok () w:=fun n=>by
  rw[Instr.checkKey]
  simp only[kkV,qt,qI hT.k,qr]
  simp[Std.Legacy.Range.forIn_eq_forIn_range',Std.Legacy.Range.size,List.range',qV hT.z,h1,h2,hi]
 exact key 9998
theorem run_eqK (hT:KTy Y t kt et it) (k j:KI) (w:World):(Op.equal kt (kkV k) (kkV j)).run P w=.ok (decide (k=j)) w:=by
 obtain⟨h1,h2⟩:=run_part2 (P:=P) hT (.int .i64 k.1) (.int .i64 k.2) w
 obtain⟨h3,h4⟩:=run_part2 (P:=P) hT (.int .i64 j.1) (.int .i64 j.2) w
 have hi:∀ (n:Nat) (x y:Int),(Op.equalIn (n+1) it (.int .i64 x) (.int .i64 y)).run P w=.ok (x==y) w:=fun n x y=>by rw[Op.equalIn];simp[qI hT.i]
 have hd:decide (k=j)=(k.1==j.1&&k.2==j.2):=by
  rw[zM];simp[Prod.ext_iff]
 have key:∀ n:Nat,(Op.equalIn (n+1+1) kt (kkV k) (kkV j)).run P w=.ok (decide (k=j)) w:=fun n=>by
  rw[Op.equalIn]
  simp only[kkV,qt,qI hT.k,qr,qV hT.z]
  rw[hd]
  cases e1:(k.1==j.1)<;>cases e2:(k.2==j.2)<;>
  simp[Std.Legacy.Range.forIn_eq_forIn_range',Std.Legacy.Range.size,List.range',h1,h2,h3,h4,hi,e1,e2]
 exact key 9998
theorem run_findK (hT:KTy Y t kt et it) {α:Type} (k:KI) (w:World):∀ (l:List (KI×α)) (es:List MapEntry) (i:Nat),es.map (·.key)=l.map (fun p=>kkV p.1)->
   ∃ r,(Instr.findAsking kt (kkV k) es i).run P w=.ok r w/\match idxI k i l with
    | none=>r=none
    | some j=>∃ e,es[j-i]? =some e/\i<=j/\r=some (j,e.val)
 | [],es,i,h=>by
  have:es=[]:=by simpa using h
  subst this
  exact⟨none,by simp[Instr.findAsking],by simp[idxI]⟩
 | (a,x)::l,[],i,h=>by cases h
 | (a,x)::l,e::es,i,h=>by
  simp only[zA,List.cons.injEq] at h
  obtain⟨h1,h2⟩:=h
  simp only[Instr.findAsking,qt,h1,run_eqK hT,qr,idxI]
  by_cases hk:k=a
  ·simp only[hk,decide_true,qp]
   exact⟨_,by simp,e,by simp,by simp,rfl⟩
  simp only[hk,decide_false,qo,qq]
  obtain⟨r,q1,q2⟩:=run_findK hT k w l es (i+1) h2
  refine⟨r,q1,?_⟩
  cases hi:idxI k (i+1) l with
  | none=>rw[hi] at q2;exact q2
  | some j=>
   rw[hi] at q2
   obtain⟨e',g1,g2,g3⟩:=q2
   refine⟨e',?_,aa,g3⟩
   rw[show j-i=j-(i+1)+1 by omega]
   simpa using g1
theorem run_findKey2 (hT:KTy Y t kt et it) (k:KI) (es:List MapEntry) (hk:∀ e∈es,∃ a,e.key=kkV a) (w:World):(Instr.findKey kt (kkV k) es).run P w=(Instr.findAsking kt (kkV k) es 0).run P w:=by
 cases es with
 | nil=>simp[Instr.findKey,qI hT.k,Instr.findNow,Instr.findAsking]
 | cons e es=>simp[Instr.findKey,qI hT.k,Instr.findNow,Instr.sameNow]
theorem keyStays2 (k:KI) (w:World):(Instr.keyThatStays (kkV k) (kkV k)).run P w=.ok (kkV k) w:=by
 have:Instr.sameBits 10000 (kkV k) (kkV k)=true:=by
  have key:∀ n:Nat,Instr.sameBits (n+1+1) (kkV k) (kkV k)=true:=fun n=>by simp[kkV,Instr.sameBits]
  exact key 9998
 simp[Instr.keyThatStays,this]
end
theorem idx_none {α:Type} {k:KI} (v:α):∀ {l:List (KI×α)} {i:Nat},idxI k i l=none->Zk k v l=l++[(k,v)]
 | [],i,_=>rfl
 | (a,x)::l,i,h=>by
  simp only[idxI] at h
  split at h
  ·cases h
  rename_i hne
  simp[Zk,hne,idx_none v h]
theorem idx_get {α:Type} {k:KI}:∀ {l:List (KI×α)} {i:Nat},idxI k i l=none->kj k l=none
 | [],i,_=>rfl
 | (a,x)::l,i,h=>by
  simp only[idxI] at h
  split at h
  ·cases h
  rename_i hne
  simp[kj,hne,idx_get h]
theorem idx_some {α:Type} {k:KI} (v:α):∀ {l:List (KI×α)} {i j:Nat},idxI k i l=some j->i<=j/\(∃ x,l[j-i]? =some (k,x)/\kj k l=some x)/\Zk k v l=l.set (j-i) (k,v)
 | [],i,j,h=>by cases h
 | (a,x)::l,i,j,h=>by
  simp only[idxI] at h
  split at h
  ·rename_i hq
   subst hq
   cases h
   simp[Zk,kj]
  rename_i hne
  obtain⟨h1,⟨y,h2,h4⟩,h3⟩:=idx_some v h
  have e:j-i=j-(i+1)+1:=aa
  refine⟨aa,⟨y,by rw[e];simpa using h2,by simp[kj,hne,h4]⟩,?_⟩
  rw[e]
  simp[Zk,hne,h3]
theorem qy.setAt {R:Rd}:∀ {cs:List PV} {vs:List Value} (_:qy R cs vs) (i:Nat) {p:PV} {v:Value} (_:qN R p v),qy R (cs.set i p) (vs.set i v)
 | [],vs,H,i,p,v,_=>by simp only[qy] at H;subst H;simp[qy]
 | c::cs,vs,H,0,p,v,h=>by
  simp only[qy] at H
  obtain⟨v0,vs',rfl,H0,H⟩:=H
  simp only[List.set_cons_zero,qy]
  exact⟨v,vs',rfl,h,H⟩
 | c::cs,vs,H,i+1,p,v,h=>by
  simp only[qy] at H
  obtain⟨v0,vs',rfl,H0,H⟩:=H
  simp only[List.set_cons_succ,qy]
  exact⟨v0,_,rfl,H0,qy.setAt H i h⟩
theorem kO_at {α:Type} {G:Gh} {w:World} {h:Nat} {enc:α->PV} {l:List (KI×α)} (H:qY G w h (kO enc l)) :
  (G.ρ h).arr=false/\∃ es:List MapEntry,G.γ (G.ρ h).map=some h/\w.heap[(G.ρ h).map]? =some (.map es.toArray es.length)/\(∀ (i:Nat) (e:MapEntry),es[i]? =some e->e.born=i)/\
   es.map (·.key)=l.map (fun p=>kkV p.1)/\qy (G.rd w) ((kvO enc l).map (·.2)) (es.map (·.val))/\es.length=l.length:=by
 simp only[qY] at H
 obtain⟨h1,es,kv,rfl,h2,h3,h4,h5,h6⟩:=H
 refine⟨h1,es,h2,h3,h4,rel_keys h5,h6,?_⟩
 have:=h5.length
 simpa [kvO] using this
theorem at_kO {α:Type} {G:Gh} {w:World} {h:Nat} {enc:α->PV} {l:List (KI×α)} {es:List MapEntry} (h1:(G.ρ h).arr=false) (h2:G.γ (G.ρ h).map=some h) (h3:w.heap[(G.ρ h).map]? =some (.map es.toArray es.length))
  (h4:∀ (i:Nat) (e:MapEntry),es[i]? =some e->e.born=i) (h5:es.map (·.key)=l.map (fun p=>kkV p.1)) (h6:qy (G.rd w) ((kvO enc l).map (·.2)) (es.map (·.val))):qY G w h (kO enc l):=by
 simp only[qY]
 refine⟨h1,es,_,rfl,h2,h3,h4,?_,h6⟩
 rw[h5]
 have:∀ l:List (KI×α),qy (G.rd w) ((kvO enc l).map (·.1)) (l.map fun p=>kkV p.1):=by
  intro l
  induction l with
  | nil=>simp[kvO,qy]
  | cons p l ih=>simp only[kvO,zA,qy];exact⟨_,_,rfl,kk_rel,ih⟩
 exact this l
section
variable {P:Program} {Y:Tab} [qM P Y] {nb:Nat} {s:St} {dst:Option Tmp} {ty:TypeId} {pos:String} {af:Array Edge} {gd:Option (Nat×Bool)} {t kt et it:TypeId} {x y z:Operand} {α:Type} {enc:α->PV}
theorem B.newK {d h:Nat} (hh:nameOf nb s.ms (some d)=h) (hm:j8 s.ms h=false):Body P Y nb s ⟨some d,.makeMap t none,ty,pos,af,gd⟩ (.mref h) [(h,kO enc [])] []:=by
 refine .inr (km.of fun σ G a w _ hl I=>?_)
 have hl':qw σ.ms h=none:=(hl h (.inr ao)).trans (hasM_none hm)
 refine⟨.map (some w.heap.size),w.alloc (.map #[] 0),_,.inl (by simp[execOp,Instr.makeMap]),jw (B:={ map:=w.heap.size }) I.fresh hl' ?_ ?_ ak am⟩
 ·simp[qx,Gh.new]
 exact at_kO (es:=[]) bS bS bT ao ao (by simp[kvO,qy])
theorem B.setK' {o:Op} (ho:o.operands=(Op.mapUpdate t x y z).operands) (he:∀ ev:Operand->Value,execOp ev ⟨none,o,ty,pos,af,gd⟩=execOp ev ⟨none,.mapUpdate t x y z,ty,pos,af,gd⟩) {h:Nat} {l:List (KI×α)} {k:KI} {v:α} (hT:KTy Y t kt et it) (hx:ev1 s x=.mref h) (hy:ev1 s y=.pv (kkP k)) (hz:ev1 s z=.pv (enc v)) (hl:qw s.ms h=some (kO enc l)) :
  Body P Y nb s ⟨none,o,ty,pos,af,gd⟩ .dead [(h,kO enc (Zk k v l))] [h]:=by
 refine .inr (km.of fun σ G a w hv hl2 I=>?_)
 have hX:=hv x bU
 have hY:=hv y bU
 have hZ:=hv z bU
 rw[hx] at hX;rw[hy] at hY;rw[hz] at hZ
 simp only[qx] at hX hY hZ
 have hY':=rel_kk hY
 have hlk:qw σ.ms h=some (kO enc l):=by rw[hl2 h (.inl ao)];exact hl
 obtain⟨k1,es,e1,e2,e3,e4,e5,e6⟩:=kO_at (I.ms _ _ hlk)
 have hgo:(getObj (G.ρ h).map).run P w=.ok (.map es.toArray es.length) w:=MapKept.run_getObj_map e2
 have hset:∀ o:Obj,(setObj (G.ρ h).map o).run P w=.ok () { w with heap:=w.heap.setIfInBounds (G.ρ h).map o }:=fun o=>MapKept.run_setObj_map o e2
 have hlt:(G.ρ h).map<w.heap.size:=(zT.1 e2).1
 have hkk:∀ e∈es,∃ a,e.key=kkV a:=by
  intro e he
  have:e.key∈es.map (·.key):=zF.2 ⟨e,he,rfl⟩
  rw[e4] at this
  obtain⟨p,_,hp⟩:=zF.1 this
  exact⟨_,hp.symm⟩
 obtain⟨r,hf1,hf2⟩:=run_findK (P:=P) hT k w l es 0 e4
 have hfk:=(run_findKey2 (P:=P) hT k es hkk w).trans hf1
 have fin:∀ (es':List MapEntry),(∀ (i:Nat) (e:MapEntry),es'[i]? =some e->e.born=i)->es'.map (·.key)=(Zk k v l).map (fun p=>kkV p.1)->qy (G.rd w) ((kvO enc (Zk k v l)).map (·.2)) (es'.map (·.val))->
   (Instr.mapUpdate t (.map (some (G.ρ h).map)) (kkV k) (a.eval z)).run P w=.ok () { w with heap:=w.heap.setIfInBounds (G.ρ h).map (.map es'.toArray es'.length) }->
   ∃ r w' G',((execOp a.eval ⟨none,o,ty,pos,af,gd⟩).run P w=.ok (.value r) w'\/(execOp a.eval ⟨none,o,ty,pos,af,gd⟩).run P w=.ok .skip w'/\r=undef)/\Stepped G w (qw σ.ms) .dead [(h,kO enc (Zk k v l))] G' w' r:=by
  intro es' c1 c2 c3 hrun
  have hblk:∀ b,G.γ b≠some h->(w.heap.setIfInBounds (G.ρ h).map (.map es'.toArray es'.length))[b]? =w.heap[b]? :=by
   intro b hb
   rw[Array.getElem?_setIfInBounds,if_neg (fun e=>hb (by rw[<-e];exact e1))]
  refine⟨undef,{ w with heap:=w.heap.setIfInBounds (G.ρ h).map (.map es'.toArray es'.length) },G,.inr ⟨?_,rfl⟩,?_⟩
  ·rw[he];simp only[execOp,hX.2,hY',qt,hrun,qr,qu]
  have S:=q7 (m:=kO enc (Zk k v l)) (val:=.dead) (r:=undef) I.ctxS (B:=G.ρ h) hlk bc
   (w':={ w with heap:=w.heap.setIfInBounds (G.ρ h).map (.map es'.toArray es'.length) }) Z Z Z ao hblk aD ?_ ak am
  ·rw[Gh.qU] at S;exact S
  rw[Gh.qU]
  have L:(G.rd w).Le (G.rd { w with heap:=w.heap.setIfInBounds (G.ρ h).map (.map es'.toArray es'.length) }):=by
   have:=(jL (G:=G) (w:=w) (h:=h) (B:=G.ρ h) (w':={ w with heap:=w.heap.setIfInBounds (G.ρ h).map (.map es'.toArray es'.length) }) Z Z Z ao hblk).rd
   rwa [Gh.qU] at this
  exact at_kO (es:=es') k1 e1 (by show (w.heap.setIfInBounds (G.ρ h).map _)[(G.ρ h).map]? =_;rw[Array.getElem?_setIfInBounds];simp[hlt]) c1 c2 (qy.mono L _ _ c3)
 cases hi:idxI k 0 l with
 | none=>
  rw[hi] at hf2
  simp only at hf2
  subst hf2
  have s1:=idx_none v hi
  refine fin (es++[{ key:=kkV k,val:=a.eval z,born:=es.length }]) (fun i e h=>?_) (by rw[s1];simp[e4]) (by rw[s1];simp only[kvO,qc,zA,z6];exact qy.append (by simpa [kvO] using e5) (by simp only[qy];exact⟨_,_,rfl,hZ,rfl⟩)) ?_
  ·rw[List.getElem?_append] at h
   split at h
   ·exact e3 i e h
   rename_i hge
   have:i=es.length:=by
    rcases Nat.lt_trichotomy i es.length with q|q|q
    ·omega
    ·exact q
    rw[qg aJ] at h;cases h
   subst this
   simp at h
   rw[<-h]
  simp only[Instr.mapUpdate,qt,qI hT.u,qr,hgo,run_checkK hT,hfk,hset]
  simp
 | some j=>
  rw[hi] at hf2
  simp only at hf2
  obtain⟨e0,g1,_,rfl⟩:=hf2
  obtain⟨_,⟨x0,s2,_⟩,s3⟩:=idx_some v hi
  simp only[Nat.sub_zero] at g1 s2 s3
  have hjl:j<es.length:=(List.getElem?_eq_some_iff.1 g1).1
  have hk0:e0.key=kkV k:=by
   have h1:(es.map (·.key))[j]? =some e0.key:=by simp[g1]
   rw[e4] at h1
   simp[s2] at h1
   exact h1.symm
  have ek:(es.modify j fun e=>{ e with key:=kkV k,val:=a.eval z })=es.set j { e0 with key:=kkV k,val:=a.eval z }:=by
   apply List.ext_getElem?
   intro i
   rw[List.getElem?_modify,List.getElem?_set]
   by_cases hji:j=i
   ·subst hji;rw[if_pos rfl,if_pos hjl,g1];simp
   simp[hji]
  refine fin (es.set j { e0 with key:=kkV k,val:=a.eval z }) (fun i e h=>?_) (by rw[s3];simp only[List.map_set,e4]) (by rw[s3];simp only[kvO,List.map_set];exact qy.setAt (by simpa [kvO] using e5) j hZ) ?_
  ·rw[List.getElem?_set] at h
   split at h
   ·rename_i hji
    subst hji
    simp only[hjl,qp,zh] at h
    rw[<-h]
    exact e3 j e0 g1
   exact e3 i e h
  simp only[Instr.mapUpdate,qt,qI hT.u,qr,hgo,run_checkK hT,hfk]
  have hkey:((((es.toArray)[j]?).map (·.key)).getD (kkV k))=kkV k:=by rw[List.getElem?_toArray,g1];simp[hk0]
  simp only[hkey,keyStays2,qr,hset]
  rw[<-ek]
  simp
theorem B.setK {h:Nat} {l:List (KI×α)} {k:KI} {v:α} (hT:KTy Y t kt et it) (hx:ev1 s x=.mref h) (hy:ev1 s y=.pv (kkP k)) (hz:ev1 s z=.pv (enc v)) (hl:qw s.ms h=some (kO enc l)) :
  Body P Y nb s ⟨none,.mapUpdate t x y z,ty,pos,af,gd⟩ .dead [(h,kO enc (Zk k v l))] [h]:=B.setK' Z (fun _=>rfl) hT hx hy hz hl
theorem B.insK {h:Nat} {l:List (KI×α)} {k:KI} {v:α} (hT:KTy Y t kt et it) (hx:ev1 s x=.mref h) (hy:ev1 s y=.pv (kkP k)) (hz:ev1 s z=.pv (enc v)) (hl:qw s.ms h=some (kO enc l)) :
  Body P Y nb s ⟨none,.insert t x y z,ty,pos,af,gd⟩ .dead [(h,kO enc (Zk k v l))] [h]:=B.setK' (o:=.insert t x y z) Z (fun _=>rfl) hT hx hy hz hl
theorem run_getK {a:Act} {w:World} {G:Gh} {σ:St} {h:Nat} {l:List (KI×α)} {k:KI} {zv:Value} {zp:PV} {i:TypeInfo} (ok:Bool) (I:Inv G σ.vw a w) (hT:KTy Y t kt et it) (hlk:qw σ.ms h=some (kO enc l)) (hi:Y.info? et=some i) (hz:i.zero=some zv) (hzp:∀ R,qN R zp zv) :
  ∃ rv:Value,(Instr.lookup t (.map (some (G.ρ h).map)) (kkV k) ok).run P w=.ok (if ok then .tuple #[rv,.bool (kj k l).isSome] else rv) w/\qN (G.rd w) (match kj k l with|some v=>enc v|none=>zp) rv:=by
 obtain⟨k1,es,e1,e2,e3,e4,e5,e6⟩:=kO_at (I.ms _ _ hlk)
 have hgo:(getObj (G.ρ h).map).run P w=.ok (.map es.toArray es.length) w:=MapKept.run_getObj_map e2
 have hkk:∀ e∈es,∃ a,e.key=kkV a:=by
  intro e he
  have:e.key∈es.map (·.key):=zF.2 ⟨e,he,rfl⟩
  rw[e4] at this
  obtain⟨p,_,hp⟩:=zF.1 this
  exact⟨_,hp.symm⟩
 obtain⟨r,hf1,hf2⟩:=run_findK (P:=P) hT k w l es 0 e4
 have hfk:=(run_findKey2 (P:=P) hT k es hkk w).trans hf1
 have hzr:(zeroValue et).run P w=.ok zv w:=by simp[zeroValue,qt,typeInfo,qM.inf P hi,hz]
 simp only[Instr.lookup,qt,qI hT.u,qr,hgo,run_checkK hT,hfk,qu]
 cases hq:idxI k 0 l with
 | none=>
  rw[hq] at hf2
  simp only at hf2
  subst hf2
  have s1:=idx_get hq
  simp only[qt,hzr,qr,qu,s1]
  exact⟨zv,rfl,hzp _⟩
 | some j=>
  rw[hq] at hf2
  simp only at hf2
  obtain⟨e0,g1,_,rfl⟩:=hf2
  simp only[Nat.sub_zero] at g1
  cases hl0:l with
  | nil=>rw[hl0] at hq;cases hq
  | cons p0 l0=>
   rw[<-hl0]
   obtain⟨_,⟨x0,s2,s3⟩,_⟩:=idx_some p0.2 hq
   simp only[Nat.sub_zero] at s2
   simp only[qt,qr,qu,s3]
   refine⟨e0.val,rfl,?_⟩
   have hj:j<(List.map (fun p=>p.2) (kvO enc l)).length:=by simpa [kvO] using (List.getElem?_eq_some_iff.1 s2).1
   obtain⟨v',q1,q2⟩:=e5.get j hj
   simp[g1] at q1
   subst q1
   have:(List.map (fun p=>p.2) (kvO enc l))[j]? =some (enc x0):=by simp[kvO,s2]
   rw[zm hj] at this
   rw[Option.some.inj this] at q2
   exact q2
theorem B.getK {h:Nat} {l:List (KI×α)} {k:KI} {zv:Value} {zp:PV} {i:TypeInfo} (hT:KTy Y t kt et it) (hx:ev1 s x=.mref h) (hy:ev1 s y=.pv (kkP k)) (hl:qw s.ms h=some (kO enc l)) (hi:Y.info? et=some i) (hz:i.zero=some zv) (hzp:∀ R,qN R zp zv) :
  Body P Y nb s ⟨dst,.lookup t x y true,ty,pos,af,gd⟩ (.tup [.pv (match kj k l with|some v=>enc v|none=>zp),lit (.bool (kj k l).isSome)]) [] [h]:=by
 refine .inr (km.of fun σ G a w hv hl2 I=>?_)
 have hX:=hv x aY
 have hY:=hv y aY
 rw[hx] at hX;rw[hy] at hY
 simp only[qx] at hX hY
 have hlk:qw σ.ms h=some (kO enc l):=by rw[hl2 h (.inl ao)];exact hl
 obtain⟨rv,hrun,hrel⟩:=run_getK (P:=P) (k:=k) true I hT hlk hi hz hzp
 refine⟨.tuple #[rv,.bool (kj k l).isSome],w,G,.inl ?_,qH I.ctxS ?_ aL⟩
 ·simp only[execOp,hX.2,rel_kk hY,qt,hrun,qr,qu];rfl
 simp only[qx,qC]
 exact⟨_,rfl,_,_,rfl,hrel,_,_,rfl,by simp[lit,qx,qN,isLit],rfl⟩
theorem B.getK0 {h:Nat} {l:List (KI×α)} {k:KI} {v:α} {zv:Value} {zp:PV} {i:TypeInfo} (hT:KTy Y t kt et it) (hx:ev1 s x=.mref h) (hy:ev1 s y=.pv (kkP k)) (hl:qw s.ms h=some (kO enc l)) (hi:Y.info? et=some i) (hz:i.zero=some zv) (hzp:∀ R,qN R zp zv) (hg:kj k l=some v) :
  Body P Y nb s ⟨dst,.lookup t x y false,ty,pos,af,gd⟩ (.pv (enc v)) [] [h]:=by
 refine .inr (km.of fun σ G a w hv hl2 I=>?_)
 have hX:=hv x aY
 have hY:=hv y aY
 rw[hx] at hX;rw[hy] at hY
 simp only[qx] at hX hY
 have hlk:qw σ.ms h=some (kO enc l):=by rw[hl2 h (.inl ao)];exact hl
 obtain⟨rv,hrun,hrel⟩:=run_getK (P:=P) (k:=k) false I hT hlk hi hz hzp
 rw[hg] at hrel
 refine⟨rv,w,G,.inl ?_,qH I.ctxS ?_ ak⟩
 ·simp only[execOp,hX.2,rel_kk hY,qt,hrun,qr,qu];rfl
 simp only[qx];exact hrel
theorem B.rangeK {hm:Nat} {l:List (KI×α)} {d h:Nat} (hT:KTy Y t kt et it) (hx:ev1 s x=.mref hm) (hl:qw s.ms hm=some (kO enc l)) (hh:nameOf nb s.ms (some d)=h) (hf:j8 s.ms h=false) :
  Body P Y nb s ⟨some d,.range t x,ty,pos,af,gd⟩ (.bref h 0) [(h,.miter hm l.length #[])] [hm]:=by
 refine .inr (km.of fun σ G a w hv hl2 I=>?_)
 have hX:=hv x aY
 rw[hx] at hX
 simp only[qx] at hX
 have hlk:qw σ.ms hm=some (kO enc l):=by rw[hl2 hm (.inl ao)];exact hl
 have hln:qw σ.ms h=none:=(hl2 h (.inr ao)).trans (hasM_none hf)
 have hne:hm≠h:=fun e=>by rw[e,hln] at hlk;cases hlk
 obtain⟨k1,es,e1,e2,e3,e4,e5,e6⟩:=kO_at (I.ms _ _ hlk)
 have hgo:(getObj (G.ρ hm).map).run P w=.ok (.map es.toArray es.length) w:=MapKept.run_getObj_map e2
 have hrun:(Instr.range t (.map (some (G.ρ hm).map))).run P w=.ok (.pointer (some ⟨w.heap.size,0,none⟩)) (w.alloc (.mapIter (some (G.ρ hm).map) l.length #[] l.length)):=by
  rw[<-e6]
  simp only[Instr.range,qt,qI hT.u,qr,hgo,qu,run_newObj];rfl
 refine⟨.pointer (some ⟨w.heap.size,0,none⟩),w.alloc (.mapIter (some (G.ρ hm).map) l.length #[] l.length),_,.inl ?_,jw (B:={ addr:=some ⟨w.heap.size,0,none⟩ }) I.fresh hln ?_ ?_ ak (by intro k hk;simp[MO.refs] at hk;subst hk;exact .inr ⟨_,hlk⟩)⟩
 ·simp only[execOp,hX.2,qt,hrun,qr,qu]
 ·simp[qx,Gh.new]
 simp only[qY]
 have hρ:(G.new h { addr:=some ⟨w.heap.size,0,none⟩ } w.heap.size).ρ hm=G.ρ hm:=by simp[Gh.new,hne]
 refine⟨by simp[Gh.new],by rw[hρ];exact k1,w.heap.size,by simp[Gh.new],by simp[Gh.new],?_⟩
 rw[hρ]
 exact heap_alloc_new w _
theorem kk_val {G:Gh} {w:World} {l:List (KI×α)} {es:List MapEntry} {i:Nat} {e:MapEntry} {k:KI} {v:α} (e4:es.map (·.key)=l.map (fun p=>kkV p.1)) (e5:qy (G.rd w) ((kvO enc l).map (·.2)) (es.map (·.val))) (he:es[i]? =some e) (hi:l[i]? =some (k,v)) :
  e.key=kkV k/\qN (G.rd w) (enc v) e.val:=by
 constructor
 ·have h1:(es.map (·.key))[i]? =some e.key:=by simp[he]
  rw[e4] at h1
  simp[hi] at h1
  exact h1.symm
 have hj:i<(List.map (fun p=>p.2) (kvO enc l)).length:=by simpa [kvO] using (List.getElem?_eq_some_iff.1 hi).1
 obtain⟨v',q1,q2⟩:=e5.get i hj
 simp[he] at q1
 subst q1
 simpa [kvO,(List.getElem?_eq_some_iff.1 hi).2] using q2
theorem B.entryK {hm h i:Nat} {l:List (KI×α)} {seen:Array Nat} {k:KI} {v:α} (hx:ev1 s x=.bref h 0) (hl:qw s.ms h=some (.miter hm l.length (seen.push i))) (hm':qw s.ms hm=some (kO enc l)) (hi:l[i]? =some (k,v)) :
  Body P Y nb s ⟨dst,.entry x,ty,pos,af,gd⟩ (.tup [.pv (kkP k),.pv (enc v)]) [] [h,hm]:=by
 refine .inr (km.of fun σ G a w hv hl2 I=>?_)
 have hX:=hv x aY
 rw[hx] at hX
 simp only[qx] at hX
 obtain⟨_,b,e0,hX⟩:=hX
 have hlk:qw σ.ms h=some (.miter hm l.length (seen.push i)):=by rw[hl2 h (.inl ao)];exact hl
 have hlm:qw σ.ms hm=some (kO enc l):=by rw[hl2 hm (.inl ao)];exact hm'
 obtain⟨_,_,b',f1,f2,f3⟩:=I.ms _ _ hlk
 obtain⟨k1,es,e1,e2,e3,e4,e5,e6⟩:=kO_at (I.ms _ _ hlm)
 rw[e0] at f1
 simp only[zh,Addr.mk.injEq,and_true] at f1
 subst f1
 have hgo:(getObj (G.ρ hm).map).run P w=.ok (.map es.toArray es.length) w:=MapKept.run_getObj_map e2
 have hgi:(getObj b).run P w=.ok (.mapIter (some (G.ρ hm).map) l.length (seen.push i) l.length) w:=by simp[getObj,Sem.run,f3]
 have hil:i<es.length:=by rw[e6];exact (List.getElem?_eq_some_iff.1 hi).1
 have hei:es[i]? =some es[i]:=zm hil
 obtain⟨q1,q2⟩:=kk_val e4 e5 hei hi
 have hfind:es.toArray.find? (·.born==i)=some es[i]:=by
  rw[List.find?_toArray]
  rw[List.find?_eq_some_iff_getElem]
  refine⟨by rw[e3 i _ hei];simp,i,hil,rfl,fun j hj=>?_⟩
  have hjl:j<es.length:=aa
  rw[e3 j _ (zm hjl)]
  simp;omega
 have hrun:(Instr.entry (.pointer (some ⟨b,0,none⟩))).run P w=.ok (.tuple #[kkV k,es[i].val]) w:=by
  simp only[Instr.entry,qt,hgi,qr,Array.back?_push,hgo,e6,bne_self_eq_false,qo,qq,hfind,qu,q1]
 refine⟨.tuple #[kkV k,es[i].val],w,G,.inl ?_,qH I.ctxS ?_ bV⟩
 ·simp only[execOp,hX,qt,hrun,qr,qu]
 simp only[qx,qC]
 exact⟨_,rfl,_,_,rfl,kk_rel,_,_,rfl,q2,rfl⟩
end
theorem run_nextK {P:Program} {w:World} {b r:Nat} {es:List MapEntry} {seen:Array Nat} {ty:TypeId} (hborn:∀ (i:Nat) (e:MapEntry),es[i]? =some e->e.born=i) (hb:w.heap[b]? =some (.mapIter (some r) es.length seen es.length)) (hr:w.heap[r]? =some (.map es.toArray es.length)) :
  ∃ d,w.drawn<=d/\(((∀ i,i<es.length->i∈seen)/\(Instr.next (.pointer (some ⟨b,0,none⟩)) false ty).run P w=.ok (.tuple #[.bool false]) { w with drawn:=d })\/
   ∃ i e,es[i]? =some e/\i∉seen/\(Instr.next (.pointer (some ⟨b,0,none⟩)) false ty).run P w=.ok (.tuple #[.bool true,e.key,e.val]) { w with heap:=w.heap.setIfInBounds b (.mapIter (some r) es.length (seen.push i) es.length),drawn:=d }):=by
 have hmb:∀ e∈es,es[e.born]? =some e/\e.born<es.length:=by
  intro e he
  obtain⟨j,hj,rfl⟩:=List.getElem_of_mem he
  have:=hborn j _ (zm hj)
  rw[this]
  exact⟨zm hj,hj⟩
 have hgb:(getObj b).run P w=.ok (.mapIter (some r) es.length seen es.length) w:=by simp only[getObj,Sem.run,hb]
 have hgr:(getObj r).run P w=.ok (.map es.toArray es.length) w:=MapKept.run_getObj_map hr
 have h0:(!seen.isEmpty&&!es.toArray.isEmpty&&es.toArray.all (fun x=>decide (x.born>=es.length)))=false:=by
  cases es with
  | nil=>simp
  | cons p l=>
   have:=(hmb p ao).2
   have hf:decide (p.born>=(p::l).length)=false:=by simp only[zH];omega
   simp[-List.length_cons,hf]
 obtain⟨L,hL⟩:∃ L,L=es.toArray.filter (fun e=>!seen.contains e.born):=⟨_,rfl⟩
 have hmem:∀ x∈L,x∈es/\x.born∉seen:=by
  intro x hx
  rw[hL,Array.mem_filter] at hx
  simpa using hx
 have e1:L.filter (fun x=>decide (x.born<es.length))=L:=Array.filter_eq_self.2 (fun x hx=>by simpa using (hmb x (hmem x hx).1).2)
 have e2:L.filter (fun x=>decide (x.born>=es.length))= #[]:=by
  rw[Array.filter_eq_empty_iff]
  intro x hx
  have:=(hmb x (hmem x hx).1).2
  simp;omega
 have hnx:(Instr.next (.pointer (some ⟨b,0,none⟩)) false ty).run P w=((choose (.mapNext (((if L.isEmpty then #[none] else #[])++(L++ #[]).map some:Array (Option MapEntry))).size)).run P w).andThen (fun j w1=>
   (match ((if L.isEmpty then #[none] else #[])++(L++ #[]).map some:Array (Option MapEntry))[j]? with
   | some (some e)=>do
    setObj b (.mapIter (some r) es.length (seen.push e.born) es.length)
    pure (Value.tuple #[.bool true,e.key,e.val])
   | some none=>(pure (Value.tuple #[.bool false]):Sem Value)
   | none=>stuck "Next: no such candidate").run P w1):=by
  simp only[Instr.next,qt,hgb,qr,hgr,h0,qo,qq,<-hL,e1,e2]
  rfl
 by_cases hz:L.size=0
 ·have:L= #[]:=Array.eq_empty_of_size_eq_zero hz
  subst this
  refine⟨w.drawn,zC _,.inl ⟨fun i hi=>?_,?_⟩⟩
  ·by_cases hs:i∈seen
   ·exact hs
   exfalso
   have hg:es[i]? =some es[i]:=zm hi
   have hbi:=hborn i _ hg
   have hm:es[i]∈es.toArray.filter (fun e=>!seen.contains e.born):=by
    rw[Array.mem_filter]
    exact⟨by rw[List.mem_toArray];exact List.mem_of_getElem? hg,by simpa [hbi] using hs⟩
   rw[<-hL] at hm
   simp at hm
  rw[hnx]
  simp[run_choose,Question.forced]
 have hne:L.isEmpty=false:=by rw[Array.isEmpty_eq_false_iff];intro e;rw[e] at hz;exact hz rfl
 obtain⟨j,d,hj,hlt,hdd⟩:=run_pick (P:=P) (w:=w) (n:=L.size) aa
 have hx:=Array.getElem_mem hlt
 obtain⟨hm1,hm2⟩:=hmem _ hx
 obtain⟨g1,_⟩:=hmb _ hm1
 refine⟨d,hdd,.inr ⟨L[j].born,L[j],g1,hm2,?_⟩⟩
 rw[hnx]
 simp only[hne,qo,qq,Array.append_empty,Array.empty_append,Array.size_map,hj,qr,Array.getElem?_map,Array.getElem?_eq_getElem hlt,qf]
 simp only[qt,setObj,Sem.run,hb,qr,qu]
section
variable {P:Program} {Y:Tab} [qM P Y] {nb n:Nat} {ops:Array Oper} {s:St} {α:Type} {enc:α->PV}
theorem T.nextK [Fc] {id h hm:Nat} {l:List (KI×α)} {seen:Array Nat} {dst:Option Tmp} {x:Operand} {ty:TypeId} {pos:String} {af:Array Edge} {os:List Oper} {Q:Exit->St->Prop}
  (hops:ops.toList=⟨dst,.next x false,ty,pos,af,none⟩::os) (hda:jA n (.region id ops false)=true) (hx:ev1 s x=.bref h 0)
  (hl:qw s.ms h=some (.miter hm l.length seen)) (hmm:qw s.ms hm=some (kO enc l))
  (hT:∀ i k v,l[i]? =some (k,v)->i∉seen->RG P Y nb ops false os (stp s ⟨dst,.tup [lit (.bool true),.pv (kkP k),.pv (enc v)],[(h,.miter hm l.length (seen.push i))],[h,hm]⟩) [] (fun s'=>Q .normal s'))
  (hF:(∀ i,i<l.length->i∈seen)->RG P Y nb ops false os (stp s ⟨dst,.tup [lit (.bool false)],[],[h,hm]⟩) [] (fun s'=>Q .normal s')):T P n nb (.region id ops false) s Q:=by
 intro G a w R I hn hK
 simp only[jA,zj] at hda
 have hda1:=hda.1
 rw[hops] at hda1
 simp only[List.all_cons,zj] at hda1
 obtain⟨hd0,hds⟩:=hda1
 have hidx:(List.range ops.size).map (fun i=>ops[i]?)=ops.toList.map some:=by
  apply List.ext_getElem?
  intro i
  simp only[qe]
  by_cases hi:i<ops.size
  ·simp[hi]
  simp[hi]
 have hsz:ops.size=os.length+1:=by rw[<-qj,hops];rfl
 have hrng:List.range ops.size=0::(List.range os.length).map Nat.succ:=by rw[hsz,List.range_succ_eq_map]
 rw[hops,hrng] at hidx
 simp only[zA,List.cons.injEq] at hidx
 obtain⟨hi0,hidx⟩:=hidx
 refine wpIn_region ?_
 rw[hrng]
 simp only[wpOpsIn,hi0]
 have hX:=kI I x
 rw[hx] at hX
 simp only[qx] at hX
 obtain⟨_,b,e0,hX⟩:=hX
 obtain⟨ka,kb,b',f1,f2,f3⟩:=I.ms _ _ hl
 obtain⟨k1,es,e1,e2,e3,e4,e5,e6⟩:=kO_at (I.ms _ _ hmm)
 rw[e0] at f1
 simp only[zh,Addr.mk.injEq,and_true] at f1
 subst f1
 have hwant:Region.wanted (⟨dst,.next x false,ty,pos,af,none⟩:Oper) (yielded ops a.tmps)=true:=rfl
 rw[if_pos hwant]
 have pd:∀ v,(a.put dst v).defers=a.defers:=fun v=>by cases dst<;>rfl
 have fin:∀ (e:Ef) (r:Value) (w':World) (G1:Gh),e.dst=dst->Stepped G w (qw s.ms) e.val e.ms G1 w' r->RG P Y nb ops false os (stp s e) [] (fun s'=>Q .normal s')->
   wpOpsIn fcF 0 P ops R ((List.range os.length).map Nat.succ) (a.put dst r) w':=by
  rintro e r w' G1 rfl S ⟨es,hes,_,hq⟩
  obtain⟨I1,Sn1⟩:=I.eff (K:=nb) S e.dst (dstOk_lt hd0 hn)
  refine textR (P:=P) _ hes hidx hds (G:=G1) I1 aU ?_
  intro G2 a2 w2 I2 Sn2 hn2 hd2
  exact hK _ _ _ _ _ hq I2 (Sn1.trans Sn2) hn2 (Mks.of (hd2.trans (pd r)))
 rw[<-e6] at f3
 obtain⟨d,hwd,⟨hall,hrun⟩|⟨i,e,g1,g2,hrun⟩⟩:=run_nextK (P:=P) (ty:=ty) e3 f3 e2
 ·have hex:(execOp a.eval ⟨dst,.next x false,ty,pos,af,none⟩).run P w=.ok (.value (.tuple #[.bool false])) { w with drawn:=d }:=by
   simp only[execOp,hX,qt,hrun,qr,qu]
  refine wpR_of ?_ ao _
  unfold Oper.wp
  rw[hex]
  refine fin ⟨dst,.tup [lit (.bool false)],[],[h,hm]⟩ _ _ G Z ?_ (hF (by rw[<-e6];exact hall))
  have I':Inv G s.vw a { w with drawn:=d }:=I.drew d
  have S:=qH I'.ctxS (val:=.tup [lit (.bool false)]) (r:=.tuple #[.bool false]) (by simp only[qx];exact⟨_,rfl,kW (vs:=[.bool false]) au⟩) aL
  exact { S with later:=⟨S.later.base,S.later.R0,S.later.R0c,S.later.R0m,S.later.os,S.later.tape,S.later.output,S.later.size,S.later.cold,fun _=>hwd⟩ }
 have hil:i<l.length:=by rw[<-e6];exact (List.getElem?_eq_some_iff.1 g1).1
 obtain⟨k,v,hkv⟩:∃ k v,l[i]? =some (k,v):=⟨_,_,zm hil⟩
 obtain⟨q1,q2⟩:=kk_val e4 e5 g1 hkv
 have hex:(execOp a.eval ⟨dst,.next x false,ty,pos,af,none⟩).run P w=.ok (.value (.tuple #[.bool true,kkV k,e.val])) { w with heap:=w.heap.setIfInBounds b (.mapIter (some (G.ρ hm).map) es.length (seen.push i) es.length),drawn:=d }:=by
  simp only[execOp,hX,qt,hrun,qr,qu,q1]
 refine wpR_of ?_ ao _
 unfold Oper.wp
 rw[hex]
 refine fin ⟨dst,.tup [lit (.bool true),.pv (kkP k),.pv (enc v)],[(h,.miter hm l.length (seen.push i))],[h,hm]⟩ _ _ G Z ?_ (hT i k v hkv g2)
 have hbl:b<w.heap.size:=(zT.1 f3).1
 have hblk:∀ b',G.γ b'≠some h->(w.heap.setIfInBounds b (.mapIter (some (G.ρ hm).map) es.length (seen.push i) es.length))[b']? =w.heap[b']? :=by
  intro b' hb
  rw[Array.getElem?_setIfInBounds,if_neg (fun e=>hb (by rw[<-e];exact f2))]
 have L:(G.rd w).Le (G.rd { w with heap:=w.heap.setIfInBounds b (.mapIter (some (G.ρ hm).map) es.length (seen.push i) es.length),drawn:=d }):=by
  have:=(jL (G:=G) (w:=w) (h:=h) (B:=G.ρ h) (w':={ w with heap:=w.heap.setIfInBounds b (.mapIter (some (G.ρ hm).map) es.length (seen.push i) es.length),drawn:=d }) Z Z Z ao hblk (fun _=>hwd)).rd
  rwa [Gh.qU] at this
 have S:=q7 (m:=.miter hm l.length (seen.push i)) (val:=.tup [lit (.bool true),.pv (kkP k),.pv (enc v)]) (r:=.tuple #[.bool true,kkV k,e.val]) I.ctxS (B:=G.ρ h) hl bc
  (w':={ w with heap:=w.heap.setIfInBounds b (.mapIter (some (G.ρ hm).map) es.length (seen.push i) es.length),drawn:=d }) Z Z Z ao hblk ?_ ?_ aL (by intro k hk;simp[MO.refs] at hk;subst hk;exact⟨_,hmm⟩) (fun _=>hwd)
 ·rw[Gh.qU] at S;exact S
 ·rw[Gh.qU]
  simp only[qx,qC]
  exact⟨_,rfl,_,_,rfl,by simp[lit,qx,qN,isLit],_,_,rfl,kk_rel,_,_,rfl,qN.mono L _ _ q2,rfl⟩
 rw[Gh.qU]
 simp only[qY]
 refine⟨ka,kb,b,e0,f2,?_⟩
 show (w.heap.setIfInBounds b _)[b]? =_
 rw[Array.getElem?_setIfInBounds,<-e6];simp[hbl]
end
theorem TK.nextK [Fc] {P:Program} {Y:Tab} [qM P Y] {nb n:Nat} {ops:Array Oper} {s:St} {α:Type} {enc:α->PV} {Q:Exit->St->Prop} {K:List Fr} {id h hm:Nat} {l:List (KI×α)} {seen:Array Nat} {dst:Option Tmp} {x:Operand} {ty:TypeId} {pos:String} {af:Array Edge} {os:List Oper}
  (hops:ops.toList=⟨dst,.next x false,ty,pos,af,none⟩::os) (hda:jA n (.region id ops false)=true) (hx:ev1 s x=.bref h 0)
  (hl:qw s.ms h=some (.miter hm l.length seen)) (hmm:qw s.ms hm=some (kO enc l))
  (hT:∀ i k v,l[i]? =some (k,v)->i∉seen->RG P Y nb ops false os (stp s ⟨dst,.tup [lit (.bool true),.pv (kkP k),.pv (enc v)],[(h,.miter hm l.length (seen.push i))],[h,hm]⟩) [] (PK P n nb Q K .normal))
  (hF:(∀ i,i<l.length->i∈seen)->RG P Y nb ops false os (stp s ⟨dst,.tup [lit (.bool false)],[],[h,hm]⟩) [] (PK P n nb Q K .normal)):TK P n nb Q (.region id ops false) K s:=
 T.nextK (Y:=Y) hops hda hx hl hmm hT hF
theorem TK.moE [Fc] {P:Program} {n nb:Nat} {Q:Exit->St->Prop} {K:List Fr} {c:Code} {tm:List (Nat×DV)} {ms:List (Nat×MO)} {h:Nat} {o:MO} {ι:Type} {p:ι->Prop} {o':ι->MO} (hm:qw ms h=some o)
  (ho:∀ (G:Gh) (w:World),qY G w h o->∃ i,p i/\qY G w h (o' i)) (hr:∀ i,(o' i).refs=[]) (k:∀ i,p i->TK P n nb Q c K ⟨tm,(h,o' i)::ms⟩):TK P n nb Q c K ⟨tm,ms⟩:=by
 intro G a w R I hn hK
 obtain⟨i,hp,H⟩:=ho G w (I.ms h _ hm)
 have S:=q7 (m:=o' i) (val:=.dead) (r:=undef) I.ctxS (B:=G.ρ h) hm bc (w':=w) Z Z Z Z (fun _ _=>rfl) aD bW ak (by rw[hr];simp)
 rw[Gh.qU] at S
 obtain⟨I1,Sn1⟩:=I.eff (s:=⟨tm,ms⟩) (K:=nb) S none ao
 exact k i hp G a w R I1 hn fun e s' G' a' w' hq I' Sn' hn' hm'=>hK e s' G' a' w' hq I' (Sn1.trans Sn') hn' hm'
section
variable [Fc] {P:Program} {n nb:Nat} {Q:Exit->St->Prop} {K:List Fr} {c:Code} {tm:List (Nat×DV)} {ms:List (Nat×MO)} {h:Nat}
theorem TK.openK {R:List (PV×PV)->Prop} (hm:qw ms h=some (.kmap R)) (k:∀ kv,R kv->TK P n nb Q c K ⟨tm,(h,.kmap (fun x=>x=kv))::ms⟩):TK P n nb Q c K ⟨tm,ms⟩:=
 TK.moE (o':=fun kv=>.kmap (fun x=>x=kv)) hm (fun G w H=>by
  simp only[qY] at H ⊢
  obtain⟨h1,es,kv,h2,h3⟩:=H
  exact⟨kv,h2,h1,es,kv,rfl,h3⟩) (fun _=>rfl) k
theorem TK.shutK {R R':List (PV×PV)->Prop} (hm:qw ms h=some (.kmap R)) (hR:∀ kv,R kv->R' kv) (k:TK P n nb Q c K ⟨tm,(h,.kmap R')::ms⟩):TK P n nb Q c K ⟨tm,ms⟩:=
 TK.moE (ι:=Unit) (p:=fun _=>True) (o':=fun _=>.kmap R') hm (fun G w H=>by
  simp only[qY] at H ⊢
  obtain⟨h1,es,kv,h2,h3⟩:=H
  exact⟨(),trivial,h1,es,kv,hR kv h2,h3⟩) (fun _=>rfl) (fun _ _=>k)
theorem TK.openA {R:List (List PV)->Prop} {v sz:Nat} {T:TypeId} (hm:qw ms h=some (.arrK v sz T R)) (k:∀ es,R es->TK P n nb Q c K ⟨tm,(h,.arr v sz T es)::ms⟩):TK P n nb Q c K ⟨tm,ms⟩:=
 TK.moE (o':=fun es=>.arr v sz T es) hm (fun G w H=>by
  simp only[qY] at H ⊢
  obtain⟨es,h2,h3⟩:=H
  exact⟨es,h2,h3⟩) (fun _=>rfl) k
theorem TK.shutA {R:List (List PV)->Prop} {v sz:Nat} {T:TypeId} {es:List (List PV)} (hm:qw ms h=some (.arr v sz T es)) (hR:R es) (k:TK P n nb Q c K ⟨tm,(h,.arrK v sz T R)::ms⟩):TK P n nb Q c K ⟨tm,ms⟩:=
 TK.moE (ι:=Unit) (p:=fun _=>True) (o':=fun _=>.arrK v sz T R) hm (fun G w H=>by
  simp only[qY] at H ⊢
  exact⟨(),trivial,es,hR,H⟩) (fun _=>rfl) (fun _ _=>k)
end
end Go.Lens
end
section
namespace Go.Lens
variable [Lz]
mutual
def DV.ren (g:Nat->Nat):DV->DV
 | .dead=>.dead
 | .nils=>.nils
 | .gd c d=>.gd c (d.ren g)
 | .pv p=>.pv p
 | .bref h c=>.bref (g h) c
 | .aref h v=>.aref (g h) v
 | .atrunc h v k=>.atrunc (g h) v k
 | .eref h v i c=>.eref (g h) v i c
 | .awin h v o n=>.awin (g h) v o n
 | .mref h=>.mref (g h)
 | .agg ds=>.agg (DV.renL g ds)
 | .tup ds=>.tup (DV.renL g ds)
 | .clos f a c=>.clos f (DV.renL g a) (DV.renL g c)
 | .yld h us ds=>.yld (g h) us (DV.renL g ds)
def DV.renL (g:Nat->Nat):List DV->List DV
 | []=>[]
 | d::ds=>d.ren g::DV.renL g ds
end
def MO.ren (g:Nat->Nat):MO->MO
 | .box T ds=>.box T (DV.renL g ds)
 | .miter hm s n=>.miter (g hm) s n
 | .arr v e T es=>.arr v e T es
 | .map a b=>.map a b
 | .fbox a=>.fbox a
 | .farr v e=>.farr v e
 | .fmap a b=>.fmap a b
 | .siter a p=>.siter a p
 | .obj o=>.obj o
 | .kmap R=>.kmap R
 | .arrK v e T R=>.arrK v e T R
 | .gone=>.gone
def renM (g:Nat->Nat) (l:List (Nat×MO)):List (Nat×MO):=l.map fun p=>(g p.1,p.2.ren g)
def Gh.ren (G:Gh) (g g':Nat->Nat):Gh:={ G with ρ:=fun x=>G.ρ (g x),γ:=fun b=>(G.γ b).map g' }
mutual
theorem ren_refs (g:Nat->Nat):∀ d:DV,(d.ren g).refs=d.refs.map g
 | .dead| .nils| .pv _=>rfl
 | .gd c d=>by simp only[DV.ren,DV.refs];exact ren_refs g d
 | .bref h c| .aref h v| .atrunc h v k| .eref h v i c| .awin h v o n| .mref h=>rfl
 | .agg ds| .tup ds=>by simp only[DV.ren,DV.refs];exact Zi g ds
 | .clos f a c=>by simp only[DV.ren,DV.refs,Zi g a,Zi g c,qc]
 | .yld h us ds=>by simp only[DV.ren,DV.refs,Zi g ds,zA]
theorem Zi (g:Nat->Nat):∀ ds:List DV,DV.qP (DV.renL g ds)=(DV.qP ds).map g
 | []=>rfl
 | d::ds=>by simp only[DV.renL,DV.qP,ren_refs g d,Zi g ds,qc]
end
theorem mo_refs (g:Nat->Nat) (o:MO):(o.ren g).refs=o.refs.map g:=by
 cases o<;>simp[MO.ren,MO.refs,Zi]
section
variable {G:Gh} {g g':Nat->Nat} {w:World}
mutual
theorem RelDV_ren {R:Rd}:∀ (d:DV) (v:Value),qx (G.ren g g') R d v↔qx G R (d.ren g) v
 | .dead,_=>by simp only[DV.ren,qx]
 | .nils,_=>by simp only[DV.ren,qx]
 | .pv _,_=>by simp only[DV.ren,qx]
 | .gd c d,v=>by simp only[DV.ren,qx,RelDV_ren d v]
 | .bref h c,_=>by simp only[DV.ren,qx,Gh.ren]
 | .aref h c,_=>by simp only[DV.ren,qx,Gh.ren]
 | .atrunc h c k,_=>by simp only[DV.ren,qx,Gh.ren]
 | .eref h c i k,_=>by simp only[DV.ren,qx,Gh.ren]
 | .awin h c i k,_=>by simp only[DV.ren,qx,Gh.ren]
 | .mref h,_=>by simp only[DV.ren,qx,Gh.ren]
 | .agg ds,v=>by simp only[DV.ren,qx,jV ds]
 | .tup ds,v=>by simp only[DV.ren,qx,jV ds]
 | .clos f a c,v=>by simp only[DV.ren,qx,jV a,jV c]
 | .yld h us ds,v=>by simp only[DV.ren,qx,jV ds];rfl
theorem jV {R:Rd}:∀ (ds:List DV) (vs:List Value),qC (G.ren g g') R ds vs↔qC G R (DV.renL g ds) vs
 | [],_=>by simp only[DV.renL,qC]
 | d::ds,vs=>by
  simp only[DV.renL,qC]
  constructor
  ·rintro⟨v,vs',h1,h2,h3⟩;exact⟨v,vs',h1,(RelDV_ren d v).1 h2,(jV ds vs').1 h3⟩
  rintro⟨v,vs',h1,h2,h3⟩;exact⟨v,vs',h1,(RelDV_ren d v).2 h2,(jV ds vs').2 h3⟩
end
theorem ren_rd:(G.ren g g').rd w=G.rd w:=by
 unfold Gh.rd Gh.ren
 simp only[Option.map_eq_none_iff]
variable (h1:∀ x,g' (g x)=x) (h2:∀ x,g (g' x)=x)
include h1 h2
theorem jv {b h:Nat}:(G.ren g g').γ b=some h↔G.γ b=some (g h):=by
 simp only[Gh.ren,Option.map_eq_some_iff]
 constructor
 ·rintro⟨x,e,rfl⟩;rw[h2];exact e
 intro e;exact⟨_,e,h1 h⟩
theorem kS {b:Nat}:(G.ren g g').γ b=none↔G.γ b=none:=by simp[Gh.ren]
theorem RelMO_ren {h:Nat}:∀ (o:MO),qY (G.ren g g') w h o↔qY G w (g h) (o.ren g)
 | .box T ds=>by simp only[MO.ren,qY,ren_rd,jV,jv h1 h2];rfl
 | .miter hm s n=>by simp only[MO.ren,qY,jv h1 h2];rfl
 | .arr v e T es=>by simp only[MO.ren,qY,ren_rd,jv h1 h2];rfl
 | .map a b=>by simp only[MO.ren,qY,ren_rd,jv h1 h2];rfl
 | .fbox a=>by simp only[MO.ren,qY,ren_rd];rfl
 | .farr v e=>by simp only[MO.ren,qY,ren_rd];rfl
 | .fmap a b=>by simp only[MO.ren,qY,ren_rd];rfl
 | .siter a p=>by simp only[MO.ren,qY,jv h1 h2];rfl
 | .obj o=>by simp only[MO.ren,qY,jv h1 h2];rfl
 | .kmap R=>by simp only[MO.ren,qY,ren_rd,jv h1 h2];rfl
 | .arrK v e T R=>by simp only[MO.ren,qY,ren_rd,jv h1 h2];rfl
 | .gone=>by simp only[MO.ren,qY]
theorem look_ren (h:Nat):∀ l:List (Nat×MO),qw (renM g l) (g h)=(qw l h).map (MO.ren g)
 | []=>rfl
 | (k,o)::l=>by
  show qw ((g k,o.ren g)::renM g l) (g h)=_
  rw[qG,qG,look_ren h l]
  by_cases e:k=h
  ·rw[if_pos e,if_pos (by rw[e])];rfl
  rw[if_neg e,if_neg (fun q=>e (by rw[<-h1 k,q,h1]))]
theorem look_ren' {k:Nat} {o:MO} {l:List (Nat×MO)} (h:qw (renM g l) k=some o):∃ o0,qw l (g' k)=some o0/\o=o0.ren g:=by
 rw[<-h2 k,look_ren h1 h2] at h
 obtain⟨o0,e,rfl⟩:=Option.map_eq_some_iff.1 h
 exact⟨o0,e,rfl⟩
theorem qD.ren {P:Program} {f:FuncId} {ds:List DV} {l out:List (Nat×MO)} {val:DV} (H:qD P f ds (qw l) val out):qD P f (DV.renL g ds) (qw (renM g l)) (val.ren g) (renM g out):=by
 have hnm:∀ h,h∈(renM g out).map (·.1)↔g' h∈out.map (·.1):=by
  intro h
  simp only[renM,List.map_map,zF,Function.comp]
  constructor
  ·rintro⟨p,hp,rfl⟩;exact⟨p,hp,(h1 _).symm⟩
  rintro⟨p,hp,e⟩;exact⟨p,hp,by rw[e,h2]⟩
 have hlk:∀ h,(∃ o,qw l (g' h)=some o)->∃ o,qw (renM g l) h=some o:=by
  rintro h ⟨o,e⟩
  exact⟨o.ren g,by rw[<-h2 h,look_ren h1 h2,e];rfl⟩
 refine⟨fun h hh=>?_,fun G w vs M hv=>?_⟩
 ·rw[Zi] at hh
  obtain⟨h0,e0,rfl⟩:=zF.1 hh
  obtain⟨o,e⟩:=H.refs h0 e0
  exact⟨o.ren g,by rw[look_ren h1 h2,e];rfl⟩
 have M0:Zc (G.ren g g') (qw l) w:=by
  refine⟨fun h o e=>(RelMO_ren h1 h2 o).2 (M.ms (g h) _ (by rw[look_ren h1 h2,e];rfl)),fun b h e=>M.fresh b _ ((jv h1 h2).1 e),fun b h e=>?_,fun k o h e hh=>?_,fun b o v hb hv=>?_,fun r es hb hv=>?_,M.baseLe,fun b o e=>?_⟩
  ·obtain⟨o,e1⟩:=M.own b _ ((jv h1 h2).1 e)
   obtain⟨o0,e2,_⟩:=look_ren' h1 h2 e1
   rw[h1] at e2
   exact⟨o0,e2⟩
  ·obtain⟨o1,e1⟩:=M.refsM (g k) (o.ren g) (g h) (by rw[look_ren h1 h2,e];rfl) (by rw[mo_refs];exact zF.2 ⟨h,hh,rfl⟩)
   obtain⟨o0,e2,_⟩:=look_ren' h1 h2 e1
   rw[h1] at e2
   exact⟨o0,e2⟩
  ·obtain⟨q1,q2⟩:=M.r0 b o v hb hv;exact⟨(kS h1 h2).2 q1,q2⟩
  ·obtain⟨q1,q2⟩:=M.r0m r es hb hv;exact⟨(kS h1 h2).2 q1,q2⟩
  obtain⟨q1,q2⟩:=M.laid b o e;exact⟨(kS h1 h2).2 q1,q2⟩
 refine (H.call (G.ren g g') w vs M0 (by rw[ren_rd];exact (jV ds _).2 hv)).mono ?_
 rintro r w' ⟨G1,S⟩
 obtain⟨G2,hG⟩:∃ G2:Gh,G2.ren g g'=G1:=⟨G1.ren g' g,by
  obtain⟨b,R0,ρ,γ⟩:=G1
  simp only[Gh.ren,Gh.mk.injEq,true_and]
  refine⟨funext fun x=>by rw[h1],funext fun b=>?_⟩
  cases γ b with
  | none=>rfl
  | some x=>simp[h1]⟩
 subst hG
 refine⟨G2,⟨⟨S.later.base,S.later.R0,fun b o v hb hv=>?_,fun r' es hb hv=>?_,S.later.os,S.later.tape,S.later.output,S.later.size,fun b hb hg=>?_,S.later.drawn⟩,?_,fun h o hh=>?_,fun h o e=>?_,fun h hh=>⟨?_,fun b hb=>?_⟩,fun b h e=>?_,fun b h e=>?_,fun h hh=>?_,fun k o hk h hh=>?_,fun b h e=>?_,fun b o v hb hv=>?_,fun r' es hb hv=>?_⟩⟩
 ·exact (S.later.R0c b o v hb hv).imp id (fun q e=>q ((kS h1 h2).2 e))
 ·exact (S.later.R0m r' es hb hv).imp id (fun q e=>q ((kS h1 h2).2 e))
 ·obtain⟨q1,q2⟩:=S.later.cold b hb ((kS h1 h2).2 hg);exact⟨q1,(kS h1 h2).1 q2⟩
 ·have:=(RelDV_ren val r).1 S.hval;rwa [ren_rd] at this
 ·simp only[renM,zF] at hh
  obtain⟨p,hp,e⟩:=hh
  simp only[zz] at e
  obtain⟨rfl,rfl⟩:=e
  exact (RelMO_ren h1 h2 p.2).1 (S.hms p.1 p.2 hp)
 ·obtain⟨o0,e2,_⟩:=look_ren' h1 h2 e
  have:=S.keeps _ _ e2
  simp only[Gh.keeps,Gh.ren,h2] at this
  exact this
 ·have:=(S.old (g' h) (fun q=>hh ((hnm h).2 q))).1
  simp only[Gh.ren,h2] at this
  exact this
 ·obtain⟨q1,q2⟩:=(S.old (g' h) (fun q=>hh ((hnm h).2 q))).2 b ((jv h1 h2).2 (by rw[h2];exact hb))
  rw[jv h1 h2,h2] at q1
  exact⟨q1,q2⟩
 ·exact S.fresh b (g' h) ((jv h1 h2).2 (by rw[h2];exact e))
 ·rcases S.own b (g' h) ((jv h1 h2).2 (by rw[h2];exact e)) with q|q
  ·exact .inl ((hnm h).2 q)
  rw[jv h1 h2,h2] at q;exact .inr q
 ·rw[ren_refs] at hh
  obtain⟨h0,e0,rfl⟩:=zF.1 hh
  rcases S.refs h0 e0 with q|⟨o,q⟩
  ·exact .inl ((hnm _).2 (by rw[h1];exact q))
  exact .inr ⟨o.ren g,by rw[look_ren h1 h2,q];rfl⟩
 ·simp only[renM,zF] at hk
  obtain⟨p,hp,e⟩:=hk
  simp only[zz] at e
  obtain⟨rfl,rfl⟩:=e
  rw[mo_refs] at hh
  obtain⟨h0,e0,rfl⟩:=zF.1 hh
  rcases S.refsM p.1 p.2 hp h0 e0 with q|⟨o,q⟩
  ·exact .inl ((hnm _).2 (by rw[h1];exact q))
  exact .inr ⟨o.ren g,by rw[look_ren h1 h2,q];rfl⟩
 ·rcases S.newb b (g' h) ((jv h1 h2).2 (by rw[h2];exact e)) with q|q
  ·rw[jv h1 h2,h2] at q;exact .inl q
  exact .inr q
 ·exact (S.r0 b o v hb hv).imp id (fun q=>⟨(kS h1 h2).1 q.1,q.2⟩)
 exact (S.r0m r' es hb hv).imp id (fun q=>⟨(kS h1 h2).1 q.1,q.2⟩)
end
def swp (a b x:Nat):Nat:=if x=a then b else if x=b then a else x
theorem swp_swp (a b x:Nat):swp a b (swp a b x)=x:=by
 unfold swp
 by_cases h1:x=a
 ·subst h1;by_cases h2:b=x<;>simp[h2]
 by_cases h2:x=b
 ·subst h2;simp[h1]
 simp[h1,h2]
theorem swp_l (a b:Nat):swp a b a=b:=by simp[swp]
theorem swp_o {a b x:Nat} (h1:x≠a) (h2:x≠b):swp a b x=x:=by simp[swp,h1,h2]
def r1 (x a t:Nat):Nat:=swp x a t
def r2 (x y a b t:Nat):Nat:=swp (r1 x a y) b (r1 x a t)
def r3 (x y z a b c t:Nat):Nat:=swp (r2 x y a b z) c (r2 x y a b t)
def r2' (x y a b t:Nat):Nat:=r1 x a (swp (r1 x a y) b t)
def r3' (x y z a b c t:Nat):Nat:=r2' x y a b (swp (r2 x y a b z) c t)
section
variable {x y z a b c t u:Nat}
theorem r1_l (x a t:Nat):r1 x a (r1 x a t)=t:=swp_swp ..
theorem r2_l (x y a b t:Nat):r2' x y a b (r2 x y a b t)=t:=by unfold r2 r2';rw[swp_swp,r1_l]
theorem r2_r (x y a b t:Nat):r2 x y a b (r2' x y a b t)=t:=by unfold r2 r2';rw[r1_l,swp_swp]
theorem r3_l (x y z a b c t:Nat):r3' x y z a b c (r3 x y z a b c t)=t:=by unfold r3 r3';rw[swp_swp,r2_l]
theorem r3_r (x y z a b c t:Nat):r3 x y z a b c (r3' x y z a b c t)=t:=by unfold r3 r3';rw[r2_r,swp_swp]
theorem r1_inj (e:r1 x a t=r1 x a u):t=u:=by have:=congrArg (r1 x a) e;rwa [r1_l,r1_l] at this
theorem r2_inj (e:r2 x y a b t=r2 x y a b u):t=u:=by have:=congrArg (r2' x y a b) e;rwa [r2_l,r2_l] at this
theorem r1_1 (x a:Nat):r1 x a x=a:=swp_l ..
theorem r2_1 (hx:x≠y) (h:a≠b):r2 x y a b x=a:=by
 unfold r2;rw[r1_1]
 exact swp_o (fun e=>hx (r1_inj ((r1_1 x a).trans e))) h
theorem r2_2 (x y a b:Nat):r2 x y a b y=b:=by unfold r2;exact swp_l ..
theorem r3_1 (hx:x≠y) (hz:x≠z) (h:a≠b) (hc:a≠c):r3 x y z a b c x=a:=by
 unfold r3;rw[r2_1 hx h]
 exact swp_o (fun e=>hz (r2_inj ((r2_1 hx h).trans e))) hc
theorem r3_2 (hz:y≠z) (hc:b≠c):r3 x y z a b c y=b:=by
 unfold r3;rw[r2_2]
 exact swp_o (fun e=>hz (r2_inj ((r2_2 x y a b).trans e))) hc
theorem r3_3 (x y z a b c:Nat):r3 x y z a b c z=c:=by unfold r3;exact swp_l ..
theorem qD.r1 {P:Program} {f:FuncId} {ds:List DV} {l out:List (Nat×MO)} {val:DV} (x a:Nat) (H:qD P f ds (qw l) val out):qD P f (DV.renL (r1 x a) ds) (qw (renM (r1 x a) l)) (val.ren (r1 x a)) (renM (r1 x a) out):=qD.ren (r1_l x a) (r1_l x a) H
theorem qD.r2 {P:Program} {f:FuncId} {ds:List DV} {l out:List (Nat×MO)} {val:DV} (x y a b:Nat) (H:qD P f ds (qw l) val out):qD P f (DV.renL (r2 x y a b) ds) (qw (renM (r2 x y a b) l)) (val.ren (r2 x y a b)) (renM (r2 x y a b) out):=qD.ren (r2_l x y a b) (r2_r x y a b) H
theorem qD.r3 {P:Program} {f:FuncId} {ds:List DV} {l out:List (Nat×MO)} {val:DV} (x y z a b c:Nat) (H:qD P f ds (qw l) val out):qD P f (DV.renL (r3 x y z a b c) ds) (qw (renM (r3 x y z a b c) l)) (val.ren (r3 x y z a b c)) (renM (r3 x y z a b c) out):=qD.ren (r3_l x y z a b c) (r3_r x y z a b c) H
end
end Go.Lens
end
section
namespace Go.Lens.Tb
open Go.Proofs Go.Lens.Un
variable [Lz]
set_option maxRecDepth 100000
attribute [local irreducible] TK PK T RG EfR Body CG
abbrev eK (k:KI):List PV:=[pI (Prod.fst k),pI (Prod.snd k)]
def cmp3 (x y:Int):Int:=if x<y then -1 else if y<x then 1 else 0
def ordI (a b:KI):Int:=qB [cmp3 (a.1+a.2) (b.1+b.2),cmp3 b.1 a.1]
def KS (a:KI):Prop:=0<=a.1/\0<=a.2/\a.1+a.2<=1000
section
variable {x y:Int} {l:List Int} {k:Nat}
theorem c3_1 (h:x<y): -1=cmp3 x y:=by unfold cmp3;rw[if_pos h]
theorem c3_2 (h:¬x<y) (g:y<x):1=cmp3 x y:=by unfold cmp3;rw[if_neg h,if_pos g]
theorem c3_3 (h:¬x<y) (g:¬y<x):0=cmp3 x y:=by unfold cmp3;rw[if_neg h,if_neg g]
theorem fi_step (h:qB l=qB (l.drop k)) (hk:k<l.length) (h0:¬l.getD k 0≠0):qB l=qB (l.drop (k+1)):=by
 rw[h,drop_at l k 0 hk,qB,if_pos (zi.1 h0)]
theorem fi_at (h:qB l=qB (l.drop k)) (hk:k<l.length) (h0:l.getD k 0≠0):l.getD k 0=qB l:=by
 rw[h,drop_at l k 0 hk,qB,if_neg h0]
theorem fi_end (h:qB l=qB (l.drop k)) (hk:¬((k:Nat):Int)<((l.length:Nat):Int)):0=qB l:=by
 rw[h,zW aa];rfl
end
theorem un45:tab.underlying 45=some (.slice 3):=ae
theorem w268 (x:Int):CKa 268 [vI x] (vB false):=by
 exact cG qf268 Z (nB Z) Z (Rt Z (leaf (val0:=vB (decide (x≠x))) ae (lb (by exact zk (fun h=>h Z)))))
theorem w224 (x y:Int):CKa 224 [vI x,vI y] (vI (cmp3 x y)):=by
 refine cG qf224 Z (nB Z) Z (C Z (w268 x) Z Z Z (C Z (w268 y) Z Z Z (CF Z Z (CF Z Z (Cp Z Z (fun h1=>?_) (fun h1=>?_))))))
 ·exact Rt Z (leaf (val0:=vI (-1)) ae (li bX))
 refine Cp Z Z (fun h2=>?_) (fun h2=>?_)
 ·exact Rt Z (leaf (val0:=vI 1) ae (li bX))
 exact Rt Z (leaf (val0:=vI 0) ae (li bX))
theorem w223 (l:List Int) (hl:List.length l<=1000):CKa 223 [vL eI l] (vI (qB l)):=by
 refine cG qf223 Z (nB Z) Z (E Z (B.jW Z un45) (l1 (fun (k:Nat)=>[(3,vI 0),(6,vL eI l),(7,vI ((l.length:Nat):Int)),(8,vI ((k:Nat):Int))]) (fun _=>[]) (fun k=>k<=List.length l/\qB l=qB (List.drop k l)) (fun k=>List.length l-k) 0 Z ?_ (sb Z Z Z) ?_))
 · exact⟨zw _,rfl⟩
 intro k hI0
 refine Cp Z Z (fun h1=>?_) (fun h1=>?_)
 ·refine E Z (B.idx (z:=0) (i:=k) Z Z un45 sz3 (fun _=>rfl) Z aa) (Cp Z Z (fun h2=>?_) (fun h2=>?_))
  ·exact Rt Z (leaf (val0:=vI (l.getD k 0)) ae (li bY))
  refine E Z (B.add Z Z bj) (pk Z (L1 (k+1) ?_ ?_ (sb Z Z Z)))
  · exact⟨aa,fi_step hI0.2 aa ab⟩
  · omega
 exact Rt Z (leaf (val0:=vI 0) ae (li bY))
theorem w170 (a b:KI) (ha:KS a) (hb:KS b):CKa 170 [.pv (.agg [pI (Prod.fst a),pI (Prod.snd a)]),.pv (.agg [pI (Prod.fst b),pI (Prod.snd b)])] (vI (ordI a b)):=by
 exact cG qf170 Z (nB Z) Z (E Z (B.run Z) (E Z (B.run Z) (E Z (B.add Z Z bZ) (E Z (B.run Z) (E Z (B.run Z) (E Z (B.add Z Z bZ) (C Z (w224 ((Prod.fst a)+(Prod.snd a)) ((Prod.fst b)+(Prod.snd b))) Z Z Z (E Z (B.run Z) (E Z (B.run Z) (C Z (w224 (Prod.fst b) (Prod.fst a)) Z Z Z (E Z (B.ja (val:=.pv (.slice (List.map eI [(cmp3 ((Prod.fst a)+(Prod.snd a)) ((Prod.fst b)+(Prod.snd b))),(cmp3 (Prod.fst b) (Prod.fst a))]))) Z (fun l=>Frz.arr l _ _ _ _ _) Z) (C Z (w223 [(cmp3 ((Prod.fst a)+(Prod.snd a)) ((Prod.fst b)+(Prod.snd b))),(cmp3 (Prod.fst b) (Prod.fst a))] (nB Z)) Z Z Z (Dr Z ae (Rt Z (leaf (val0:=vI (qB [(cmp3 ((Prod.fst a)+(Prod.snd a)) ((Prod.fst b)+(Prod.snd b))),(cmp3 (Prod.fst b) (Prod.fst a))])) ae (li bi))))))))))))))))
end Go.Lens.Tb
end
section
namespace Go.Lens.Un
abbrev PL:=List (KI×Rat)
def lin (g:KI->Rat):PL->Rat
 | []=>0
 | (a,c)::l=>c*g a+lin g l
def cf (P:PL) (k:KI):Rat:=lin (fun a=>if a=k then 1 else 0) P
def szP:PL->Nat
 | []=>1
 | (_,c)::l=>sz c+1+szP l
theorem lin_app (g:KI->Rat):∀ (P R:PL),lin g (P++R)=lin g P+lin g R
 | [],R=>by simp[lin,Rat.zero_add]
 | (a,c)::l,R=>by simp only[zR,lin,lin_app g l R];grind
theorem cf_app (P R:PL) (k:KI):cf (P++R) k=cf P k+cf R k:=lin_app _ P R
theorem jp (a:KI) (c:Rat) (P:PL) (k:KI):cf ((a,c)::P) k=(if a=k then c else 0)+cf P k:=by
 show c*(if a=k then 1 else 0)+cf P k=_
 by_cases h:a=k
 ·rw[if_pos h,if_pos h,Rat.mul_one]
 rw[if_neg h,if_neg h,Rat.mul_zero]
theorem cf_nil (k:KI):cf [] k=0:=rfl
theorem lin_split (g:KI->Rat) (a:KI):∀ P:PL,lin g P=cf P a*g a+lin g (P.filter fun p=>decide (p.1≠a))
 | []=>by simp[lin,cf,Rat.zero_mul,Rat.add_zero]
 | (b,c)::l=>by
  have ih:=lin_split g a l
  by_cases h:b=a
  ·subst h
   simp only[lin,jp,qp,List.filter_cons,ne_eq,not_true_eq_false,decide_false,qo,qq]
   rw[ih];grind
  simp only[lin,jp,h,qq,List.filter_cons,ne_eq,not_false_eq_true,decide_true,qp]
  rw[ih];grind
theorem cf_filter (a k:KI):∀ P:PL,cf (P.filter fun p=>decide (p.1≠a)) k=if k=a then 0 else cf P k
 | []=>by simp[cf_nil]
 | (b,c)::l=>by
  have ih:=cf_filter a k l
  by_cases h:b=a
  ·subst h
   simp only[List.filter_cons,ne_eq,not_true_eq_false,decide_false,qo,qq,jp]
   rw[ih]
   by_cases hk:k=b
   ·simp[hk]
   simp[hk,Ne.symm hk,Rat.zero_add]
  simp only[List.filter_cons,ne_eq,h,not_false_eq_true,decide_true,qp,jp]
  rw[ih]
  by_cases hk:k=a
  ·subst hk;simp[h,Rat.add_zero]
  simp[hk]
def Eqv (P R:PL):Prop:=∀ k,cf P k=cf R k
theorem Eqv.rfl {P:PL}:Eqv P P:=fun _=>Eq.refl _
theorem Eqv.symm {P R:PL} (h:Eqv P R):Eqv R P:=fun k=>(h k).symm
theorem Eqv.trans {P R S:PL} (h:Eqv P R) (g:Eqv R S):Eqv P S:=fun k=>(h k).trans (g k)
theorem lin_congr (g:KI->Rat):∀ (n:Nat) (P R:PL),P.length+R.length<=n->Eqv P R->lin g P=lin g R:=by
 intro n
 induction n with
 | zero=>intro P R h _;rw[zL (l:=P) aa,zL (l:=R) aa]
 | succ n ih=>
  have key:∀ (a:KI) (P R:PL),(P.filter fun p=>decide (p.1≠a)).length+(R.filter fun p=>decide (p.1≠a)).length<=n->Eqv P R->lin g P=lin g R:=by
   intro a P R h e
   rw[lin_split g a P,lin_split g a R,e a,ih _ _ h (fun k=>by rw[cf_filter,cf_filter,e k])]
  intro P R h e
  cases P with
  | cons p l=>
   refine key p.1 _ _ ?_ e
   have h1:=List.length_filter_le (fun q=>decide (q.1≠p.1)) l
   have h2:=List.length_filter_le (fun q=>decide (q.1≠p.1)) R
   simp only[List.filter_cons,ne_eq,not_true_eq_false,decide_false,qo,qq]
   simp only[zb] at h
   simp only[ne_eq] at h1 h2
   omega
  | nil=>cases R with
   | nil=>rfl
   | cons p l=>
    refine key p.1 _ _ ?_ e
    have h1:=List.length_filter_le (fun q=>decide (q.1≠p.1)) l
    simp only[List.filter_cons,List.filter_nil,ne_eq,not_true_eq_false,decide_false,qo,qq,zd]
    simp only[zb,zd] at h
    simp only[ne_eq] at h1
    omega
theorem Eqv.lin {P R:PL} (h:Eqv P R) (g:KI->Rat):lin g P=lin g R:=lin_congr g _ P R (zC _) h
theorem Eqv.perm {P R:PL} (h:P.Perm R):Eqv P R:=by
 intro k
 induction h with
 | nil=>rfl
 | cons x _ ih=>obtain⟨a,c⟩:=x;rw[jp,jp,ih]
 | swap x y l=>obtain⟨a,c⟩:=x;obtain⟨b,d⟩:=y;rw[jp,jp,jp,jp];grind
 | trans _ _ h1 h2=>exact h1.trans h2
theorem Eqv.app {P P' R R':PL} (h:Eqv P P') (g:Eqv R R'):Eqv (P++R) (P'++R'):=fun k=>by rw[cf_app,cf_app,h k,g k]
theorem cf_no {P:PL} {k:KI} (h:k∉P.map (·.1)):cf P k=0:=by
 induction P with
 | nil=>rfl
 | cons p l ih=>
  obtain⟨a,c⟩:=p
  simp only[zA,zG,not_or] at h
  rw[jp,if_neg (Ne.symm h.1),ih h.2,Rat.zero_add]
theorem sz_0:sz (0:Rat)=1:=by decide +kernel
theorem sz_cf (P:PL) (k:KI):sz (cf P k)<=szP P:=by
 induction P with
 | nil=>rw[cf_nil,sz_0];exact zC _
 | cons p l ih=>
  obtain⟨a,c⟩:=p
  rw[jp]
  show _<=sz c+1+szP l
  split
  ·have:=sz_add c (cf l k);omega
  rw[Rat.zero_add];omega
def cfM (m:List (KI×Qn)) (k:KI):Rat:=match kj k m with|some x=>x.q|none=>0
structure KP (P:PL) (m:List (KI×Qn)):Prop where
 nd:(m.map (·.1)).Nodup
 q:∀ k,cfM m k=cf P k
 mem:∀ k∈m.map (·.1),k∈P.map (·.1)
theorem KP.nil:KP [] []:=⟨List.nodup_nil,fun _=>rfl,fun _ h=>h⟩
def addK (k:KI) (c:Qn) (m:List (KI×Qn)):List (KI×Qn):=Zk k (match kj k m with|some o=>Qn.add o c|none=>c) m
theorem get_set {α:Type} (k j:KI) (v:α):∀ l:List (KI×α),kj j (Zk k v l)=if j=k then some v else kj j l
 | []=>by simp[Zk,kj]
 | (a,x)::l=>by
  simp only[Zk]
  by_cases h:k=a
  ·subst h
   simp only[qp,kj]
   by_cases hj:j=k<;>simp[hj]
  simp only[h,qq,kj,get_set k j v l]
  by_cases hj:j=a
  ·subst hj;simp[Ne.symm h]
  simp[hj]
theorem mem_set {α:Type} (k j:KI) (v:α):∀ l:List (KI×α),j∈(Zk k v l).map (·.1)↔j=k\/j∈l.map (·.1)
 | []=>by simp[Zk]
 | (a,x)::l=>by
  simp only[Zk]
  by_cases h:k=a
  ·subst h;simp
  simp only[h,qq,zA,zG,mem_set k j v l]
  constructor
  ·rintro (h|h|h)<;>simp[h]
  rintro (h|h|h)<;>simp[h]
theorem nd_set {α:Type} (k:KI) (v:α):∀ l:List (KI×α),(l.map (·.1)).Nodup->((Zk k v l).map (·.1)).Nodup
 | [],_=>by simp[Zk]
 | (a,x)::l,hn=>by
  simp only[zA,List.nodup_cons] at hn
  simp only[Zk]
  by_cases h:k=a
  ·subst h;simp[hn.1,hn.2]
  simp only[h,qq,zA,List.nodup_cons,mem_set]
  exact⟨fun e=>e.elim (fun e=>h e.symm) hn.1,nd_set k v l hn.2⟩
theorem KP.add {P:PL} {m:List (KI×Qn)} (h:KP P m) (k:KI) (c:Qn):KP (P++[(k,c.q)]) (addK k c m):=by
 refine⟨nd_set _ _ _ h.nd,fun j=>?_,fun j hj=>?_⟩
 ·have hq:=h.q j
  unfold cfM at hq ⊢
  rw[addK,get_set,cf_app,jp,cf_nil]
  by_cases e:j=k
  ·subst e
   simp only[qp]
   rw[<-hq]
   cases kj j m with
   | none=>simp[Rat.zero_add,Rat.add_zero]
   | some o=>simp[Qn.add_q,Rat.add_zero]
  simp only[e,qq,Ne.symm e,Rat.add_zero]
  exact hq
 rw[addK,mem_set] at hj
 simp only[qc,zA,z6,zI,zg]
 rcases hj with e|e
 ·exact .inr e
 exact .inl (h.mem j e)
theorem get_of_mem {α:Type} {k:KI} {x:α}:∀ {l:List (KI×α)},(l.map (·.1)).Nodup->(k,x)∈l->kj k l=some x
 | [],_,h=>by cases h
 | (a,y)::l,hn,h=>by
  simp only[zA,List.nodup_cons] at hn
  rcases zG.1 h with e|e
  ·cases e;simp[kj]
  have:k≠a:=by rintro rfl;exact hn.1 (zF.2 ⟨_,e,rfl⟩)
  simp[kj,this,get_of_mem hn.2 e]
theorem KP.val {P:PL} {m:List (KI×Qn)} (h:KP P m) {k:KI} {x:Qn} (hx:(k,x)∈m):x.q=cf P k:=by
 rw[<-h.q k,cfM,get_of_mem h.nd hx]
theorem KP.sz {P:PL} {m:List (KI×Qn)} (h:KP P m) {k:KI} {x:Qn} (hx:(k,x)∈m):sz x.q<=szP P:=by
 rw[h.val hx];exact sz_cf P k
theorem jY {α:Type} {k:KI} {x:α}:∀ {l:List (KI×α)},kj k l=some x->(k,x)∈l
 | [],h=>by cases h
 | (a,y)::l,h=>by
  simp only[kj] at h
  split at h
  ·rename_i e;subst e;cases h;simp
  exact zO _ (jY h)
theorem KP.congr {P R:PL} {m:List (KI×Qn)} (h:KP P m) (e:Eqv P R) (hk:∀ k∈P.map (·.1),k∈R.map (·.1)):KP R m:=⟨h.nd,fun k=>(h.q k).trans (e k),fun k hm=>hk k (h.mem k hm)⟩
def plM (m:List (KI×Qn)):PL:=m.map fun p=>(p.1,p.2.q)
theorem cf_plM {m:List (KI×Qn)} (hn:(m.map (·.1)).Nodup) (k:KI):cf (plM m) k=cfM m k:=by
 induction m with
 | nil=>rfl
 | cons p l ih=>
  obtain⟨a,x⟩:=p
  simp only[zA,List.nodup_cons] at hn
  show cf ((a,x.q)::plM l) k=_
  rw[jp,ih hn.2]
  unfold cfM
  by_cases e:k=a
  ·subst e
   have:kj k l=none:=by
    cases hg:kj k l with
    | none=>rfl
    | some y=>exact absurd (zF.2 ⟨_,jY hg,rfl⟩) hn.1
   simp[kj,this,Rat.add_zero]
  simp[kj,e,Ne.symm e,Rat.zero_add]
theorem KP.eqv {P:PL} {m:List (KI×Qn)} (h:KP P m):Eqv (plM m) P:=fun k=>(cf_plM h.nd k).trans (h.q k)
end Go.Lens.Un
end
section
namespace Go.Lens.Tb
open Go.Proofs Go.Lens.Un
variable [Lz] [Dn]
set_option maxRecDepth 100000
attribute [local irreducible] TK PK T RG EfR Body CG
abbrev eP (x:Qn):PV:=.agg [pI (Qn.n x),jl,pI (Qn.d x),jl]
abbrev kR (P:PL):MO:=.kmap (fun kv=>∃ m,KP P m/\kv=kvO eP m)
structure Trm where
 c:List UInt8
 i:Int
 j:Int
abbrev eY (t:Trm):List PV:=[pS (bsO (Trm.c t)),pI (Trm.i t),pI (Trm.j t)]
def trZ:Trm:=⟨[],0,0⟩
theorem kty:KTy tab 159 151 156 3:=⟨ae,ae,ae,ae,ae⟩
abbrev zP:PV:=.agg [pI 0,.lit (.slice none 0 0),pI 0,.lit (.slice none 0 0)]
theorem zP_ok:∀ R,qN R zP (.agg #[.int .i64 0,.slice none 0 0,.int .i64 0,.slice none 0 0]):=by
 intro R
 simp only[zP,qN,qy]
 exact⟨_,rfl,by simp[Value.oneCell'],_,_,rfl,⟨rfl,rfl⟩,_,_,rfl,⟨rfl,rfl⟩,_,_,rfl,⟨rfl,rfl⟩,_,_,rfl,⟨rfl,rfl⟩,rfl⟩
section
variable {P:Program} {Y:Tab} [qM P Y] {nb:Nat} {s:St} {dst:Option Tmp} {ty:TypeId} {pos:String} {af:Array Edge} {gd:Option (Nat×Bool)} {t kt et it:TypeId} {x y z:Operand} {α:Type} {enc:α->PV}
theorem B.getKs {h:Nat} {l:List (KI×α)} {k:KI} {v:α} {zv:Value} {zp:PV} {i:TypeInfo} (hT:KTy Y t kt et it) (hx:ev1 s x=.mref h) (hy:ev1 s y=.pv (kkP k)) (hl:qw s.ms h=some (kO enc l)) (hi:Y.info? et=some i) (hz:i.zero=some zv) (hzp:∀ R,qN R zp zv) (hg:kj k l=some v) :
  Body P Y nb s ⟨dst,.lookup t x y true,ty,pos,af,gd⟩ (.tup [.pv (enc v),lit (.bool true)]) [] [h]:=by
 have:=B.getK (P:=P) (nb:=nb) (dst:=dst) (ty:=ty) (pos:=pos) (af:=af) (gd:=gd) (zp:=zp) hT hx hy hl hi hz hzp
 rw[hg] at this;exact this
theorem B.getKn {h:Nat} {l:List (KI×α)} {k:KI} {zv:Value} {zp:PV} {i:TypeInfo} (hT:KTy Y t kt et it) (hx:ev1 s x=.mref h) (hy:ev1 s y=.pv (kkP k)) (hl:qw s.ms h=some (kO enc l)) (hi:Y.info? et=some i) (hz:i.zero=some zv) (hzp:∀ R,qN R zp zv) (hg:kj k l=none) :
  Body P Y nb s ⟨dst,.lookup t x y true,ty,pos,af,gd⟩ (.tup [.pv zp,lit (.bool false)]) [] [h]:=by
 have:=B.getK (P:=P) (nb:=nb) (dst:=dst) (ty:=ty) (pos:=pos) (af:=af) (gd:=gd) (zp:=zp) hT hx hy hl hi hz hzp
 rw[hg] at this;exact this
end
theorem ad_n {k:KI} {c:Qn} {m:List (KI×Qn)} (h:kj k m=none):addK k c m=Zk k c m:=by unfold addK;rw[h]
theorem ad_s {k:KI} {c o:Qn} {m:List (KI×Qn)} (h:kj k m=some o):addK k c m=Zk k (Qn.add o c) m:=by unfold addK;rw[h]
def sumM (f:List Trm):List (KI×Qn):=f.foldl (fun m t=>Zk (t.i,t.j) (qJ t.c) m) []
theorem su_st {f:List Trm} {m:List (KI×Qn)} {k:Nat} (hk:k<f.length) (h:m=sumM (f.take k)):Zk (Trm.i (f.getD k trZ),Trm.j (f.getD k trZ)) (qJ (Trm.c (f.getD k trZ))) m=sumM (f.take (k+1)):=by
 unfold sumM at h ⊢
 rw[List.take_succ_eq_append_getElem hk,List.foldl_append,<-h,ze,zm hk];rfl
theorem ag151:aggT tab 151=some true:=ae
theorem fa111_1:fadQ tab 111 1=some 1:=ae
theorem fa111_2:fadQ tab 111 2=some 2:=ae
theorem sz111:szT tab 111=some 3:=ae
theorem sz151:szT tab 151=some 2:=ae
theorem un23:tab.underlying 23=some (.slice 111):=ae
theorem w119n (m:List (KI×Qn)) (k:KI) (c:Qn) (hg:kj k m=none):qD Tryz.prog 119 [.mref 1,.pv (.agg [pI (Prod.fst k),pI (Prod.snd k)]),.pv (.agg [pI (Qn.n c),.lit (.slice none 0 0),pI (Qn.d c),.lit (.slice none 0 0)])] (qw [(1,(kO eP m))]) (.tup []) [(1,(kO eP (addK k c m)))]:=by
 refine cL 2 [(1,(kO eP m))] qf119 Z (nB Z) Z Z (kc (E Z (B.getKn (enc:=eP) (l:=m) (k:=k) kty Z Z Z in156 Z zP_ok hg) (E Z (B.ja Z (fun l=>Frz.jU l Z) Z) (CF Z Z (E Z (B.setK (enc:=eP) (l:=m) (k:=k) (v:=c) kty Z Z Z Z) ?_)))))
 refine Rn Z ?_
 exact q5 (val0:=.tup []) (out0:=[(1,(kO eP (Zk k c m)))]) (.inl Z) ae Z (by rw[ad_n hg])
theorem w119s (m:List (KI×Qn)) (k:KI) (c o:Qn) (hg:kj k m=some o) (hz:∀ o,kj k m=some o->sz (Qn.q o)+sz (Qn.q c)<=62):qD Tryz.prog 119 [.mref 1,.pv (.agg [pI (Prod.fst k),pI (Prod.snd k)]),.pv (.agg [pI (Qn.n c),.lit (.slice none 0 0),pI (Qn.d c),.lit (.slice none 0 0)])] (qw [(1,(kO eP m))]) (.tup []) [(1,(kO eP (addK k c m)))]:=by
 refine cL 2 [(1,(kO eP m))] qf119 Z (nB Z) Z Z (kc (E Z (B.getKs (enc:=eP) (l:=m) (k:=k) (v:=o) kty Z Z Z in156 Z zP_ok hg) (E Z (B.ja Z (fun l=>Frz.jU l Z) Z) (CT Z Z (C Z (w125 o c (by have:=hz _ hg;omega)) Z Z Z (E Z (B.setK (enc:=eP) (l:=m) (k:=k) (v:=(Qn.add o c)) kty Z Z Z Z) ?_))))))
 refine Rn Z ?_
 exact q5 (val0:=.tup []) (out0:=[(1,(kO eP (Zk k (Qn.add o c) m)))]) (.inl Z) ae Z (by rw[ad_s hg])
theorem w119 (m:List (KI×Qn)) (k:KI) (c:Qn) (h:Nat) (hz:∀ o,kj k m=some o->sz (Qn.q o)+sz (Qn.q c)<=62):qD Tryz.prog 119 [.mref h,.pv (kkP k),.pv (eP c)] (qw [(h,kO eP m)]) (.tup []) [(h,kO eP (addK k c m))]:=by
 have key:qD Tryz.prog 119 [.mref 1,.pv (kkP k),.pv (eP c)] (qw [(1,kO eP m)]) (.tup []) [(1,kO eP (addK k c m))]:=by
  cases hg:kj k m with
  | none=>exact w119n m k c hg
  | some o=>exact w119s m k c o hg hz
 simpa [renM,DV.renL,DV.ren,MO.ren,r1_1] using key.r1 1 h
theorem w114' (f:List Trm) (hl:List.length f<=1000000) (hv:∀ t∈f,jg (Trm.c t)=0):qD Tryz.prog 114 [vL eY f] (qw []) (.mref 7) [(7,kO eP (sumM f))]:=by
 refine cL 1 [] qf114 Z (nB Z) Z Z (kc (E Z (B.newK (enc:=eP) Z Z) (E Z (B.jW Z un23) (l2 (fun (k:Nat) (m:List (KI×Qn))=>[(3,.mref 7),(7,vL eY f),(8,vI ((f.length:Nat):Int)),(9,vI ((k:Nat):Int))]) (fun _ m=>[(7,(kO eP m))]) (fun k m=>k<=List.length f/\m=sumM (List.take k f)) (fun k _=>List.length f-k) 0 [] Z ?_ (sb Z Z Z) ?_))))
 · exact⟨zw _,rfl⟩
 intro k m hI0
 refine Cp Z Z (fun h1=>?_) (fun h1=>?_)
 ·refine E Z (B.idx (z:=trZ) (i:=k) Z Z un23 sz111 (fun _=>rfl) Z aa) (E Z (B.run (val:=.pv (.agg [pI (Trm.i (f.getD k trZ)),pI (Trm.j (f.getD k trZ))])) (m:=[]) (rd:=[]) ae) (C Z (w116 (Trm.c (f.getD k trZ)) (hv _ (jf aa))) Z Z Z (E Z (B.setK (enc:=eP) (l:=m) (k:=((Trm.i (f.getD k trZ)),(Trm.j (f.getD k trZ)))) (v:=(qJ (Trm.c (f.getD k trZ)))) kty Z Z Z Z) (Dr Z ae (E Z (B.add Z Z bj) (pk Z (L2 (k+1) (Zk ((Trm.i (f.getD k trZ)),(Trm.j (f.getD k trZ))) (qJ (Trm.c (f.getD k trZ))) m) ?_ ?_ (sb Z Z Z))))))))
  · exact⟨aa,su_st aa hI0.2⟩
  · omega
 refine Rt Z ?_
 exact q5 (val0:=.mref 7) (out0:=[(7,(kO eP m))]) (.inr Z) ae Z (by rw[hI0.2,zB aa])
end Go.Lens.Tb
end
section
namespace Go.Proofs
open Go.Shelf
def Tryz.lays235_ren:Go.Shelf.Ren:=⟨fun|6=>235|15=>274|14=>273|28=>308|29=>309|20=>300|21=>301|22=>302|23=>303|24=>304|25=>305|26=>306|27=>307|46=>330|47=>331|48=>332|49=>333|50=>334|57=>348|n=>n,fun|22=>243|24=>151|25=>232|3=>3|39=>275|0=>0|53=>321|55=>300|4=>4|46=>346|45=>345|50=>177|5=>5|9=>9|66=>371|70=>375|76=>389|77=>390|n=>n,fun|n=>n⟩
theorem Tryz.lays235:Go.Proofs.SlLaysF0.n6 Tryz.prog Tryz.lays235_ren:={
  mixed:=ae
  f6:=⟨Tryz.f235.name,ah,Tryz.func235.trans (congrArg some ae)⟩
  f14:=⟨Tryz.f273.name,ah,Tryz.func273.trans (congrArg some ae)⟩
  f15:=Tryz.func274.trans (congrArg some ae)
  f20:=⟨Tryz.f300.name,ah,Tryz.func300.trans (congrArg some ae)⟩
  f21:=⟨Tryz.f301.name,ah,Tryz.func301.trans (congrArg some ae)⟩
  f22:=⟨Tryz.f302.name,ah,Tryz.func302.trans (congrArg some ae)⟩
  f23:=⟨Tryz.f303.name,ah,Tryz.func303.trans (congrArg some ae)⟩
  f24:=⟨Tryz.f304.name,ah,Tryz.func304.trans (congrArg some ae)⟩
  f25:=⟨Tryz.f305.name,ah,Tryz.func305.trans (congrArg some ae)⟩
  f26:=⟨Tryz.f306.name,ah,Tryz.func306.trans (congrArg some ae)⟩
  f27:=⟨Tryz.f307.name,ah,Tryz.func307.trans (congrArg some ae)⟩
  f28:=Tryz.func308.trans (congrArg some ae)
  f29:=Tryz.func309.trans (congrArg some ae)
  f46:=⟨Tryz.f330.name,ah,Tryz.func330.trans (congrArg some ae)⟩
  f47:=Tryz.func331.trans (congrArg some ae)
  f48:=Tryz.func332.trans (congrArg some ae)
  f49:=⟨Tryz.f333.name,ah,Tryz.func333.trans (congrArg some ae)⟩
  f50:=⟨Tryz.f334.name,ah,Tryz.func334.trans (congrArg some ae)⟩
  f57:=⟨Tryz.f348.name,ah,Tryz.func348.trans (congrArg some ae)⟩
  t0:=Tryz.underlying0
  a0:=Tryz.isAgg0
  z0:=Tryz.sizeOf0
  v0:=Tryz.zeroValue0
  t3:=Tryz.underlying3
  a3:=Tryz.isAgg3
  z3:=Tryz.sizeOf3
  v3:=Tryz.zeroValue3
  t4:=Tryz.underlying4
  a4:=Tryz.isAgg4
  z4:=Tryz.sizeOf4
  v4:=Tryz.zeroValue4
  t5:=Tryz.underlying5
  a5:=Tryz.isAgg5
  z5:=Tryz.sizeOf5
  v5:=Tryz.zeroValue5
  t9:=Tryz.underlying9
  a9:=Tryz.isAgg9
  z9:=Tryz.sizeOf9
  v9:=Tryz.zeroValue9
  t22:=Tryz.underlying243
  a22:=Tryz.isAgg243
  z22:=Tryz.sizeOf243
  v22:=Tryz.zeroValue243
  t25:=Tryz.underlying232
  a25:=Tryz.isAgg232
  z25:=Tryz.sizeOf232
  v25:=Tryz.zeroValue232
  t39:=Tryz.underlying275
  a39:=Tryz.isAgg275
  z39:=Tryz.sizeOf275
  v39:=Tryz.zeroValue275
  t45:=Tryz.underlying345
  a45:=Tryz.isAgg345
  z45:=Tryz.sizeOf345
  v45:=Tryz.zeroValue345
  t46:=Tryz.underlying346
  a46:=Tryz.isAgg346
  z46:=Tryz.sizeOf346
  v46:=Tryz.zeroValue346
  t50:=Tryz.underlying177
  a50:=Tryz.isAgg177
  z50:=Tryz.sizeOf177
  v50:=Tryz.zeroValue177
  t53:=Tryz.underlying321
  a53:=Tryz.isAgg321
  z53:=Tryz.sizeOf321
  v53:=Tryz.zeroValue321
  t55:=Tryz.underlying300
  a55:=Tryz.isAgg300
  z55:=Tryz.sizeOf300
  v55:=Tryz.zeroValue300
  t66:=Tryz.underlying371
  a66:=Tryz.isAgg371
  z66:=Tryz.sizeOf371
  v66:=Tryz.zeroValue371
  t70:=Tryz.underlying375
  a70:=Tryz.isAgg375
  z70:=Tryz.sizeOf375
  v70:=Tryz.zeroValue375
  t76:=Tryz.underlying389
  a76:=Tryz.isAgg389
  z76:=Tryz.sizeOf389
  v76:=Tryz.zeroValue389
  t77:=Tryz.underlying390
  a77:=Tryz.isAgg390
  z77:=Tryz.sizeOf390
  v77:=Tryz.zeroValue390 }
end Go.Proofs
end
section
namespace Go.Lens.Tb
open Go.Proofs Go.Lens.Un Go.Sort
set_option maxRecDepth 100000
theorem ordI_lt (a b:KI):ordI a b<0↔a.1+a.2<b.1+b.2\/(a.1+a.2=b.1+b.2/\b.1<a.1):=by
 unfold ordI cmp3
 by_cases h1:a.1+a.2<b.1+b.2
 ·simp[h1,qB]
 by_cases h2:b.1+b.2<a.1+a.2
 ·simp[h1,h2,qB];omega
 by_cases h3:b.1<a.1
 ·simp[h1,h2,h3,qB];omega
 by_cases h4:a.1<b.1
 ·simp[h1,h2,h3,h4,qB]
 simp[h1,h2,h3,h4,qB]
abbrev KSub:={ k:KI // KS k }
instance:Inhabited KSub:=⟨⟨(0,0),by unfold KS;decide⟩⟩
def encS (k:KSub):List Value:=[.int .i64 k.1.1,.int .i64 k.1.2]
def cfS (x y:KSub):Int:=ordI x.1 y.1
theorem cfS_swo:SWO (ltOf cfS):=by
 refine⟨fun x=>?_,fun x y z h1 h2=>?_,fun x y z h1 h2=>?_⟩
 ·simp only[ltOf,cfS,zH,ordI_lt];omega
 ·simp only[ltOf,cfS,zf,ordI_lt] at *;omega
 simp only[ltOf,cfS,zH,ordI_lt] at *;omega
theorem world_grown {w w':World} (h1:w'.os=w.os) (h2:w'.tape=w.tape) (h3:w'.output=w.output) (h4:w.drawn<=w'.drawn) (h5:w.heap.size<=w'.heap.size) (h6:∀ b,b<w.heap.size->w'.heap[b]? =w.heap[b]?) :
  ∃ q os',w'=grow (w.drewN q) os':=by
 refine⟨w'.drawn-w.drawn,w'.heap.extract w.heap.size w'.heap.size,?_⟩
 obtain⟨hp,tp,dr,os,out⟩:=w'
 simp only at h1 h2 h3 h4 h5 h6
 subst h1 h2 h3
 simp only[grow,World.drewN,World.mk.injEq,and_true,true_and]
 refine⟨?_,aa⟩
 apply Array.ext_getElem?
 intro i
 rw[Array.getElem?_append]
 split
 ·rename_i hi;exact h6 i hi
 rename_i hi
 rw[Array.getElem?_extract]
 by_cases hs:i<hp.size
 ·rw[if_pos aa];congr 1;omega
 rw[if_neg aa,Array.getElem?_eq_none aa]
theorem order_calls (x y:KSub) (W:World):Calls Tryz.prog 170 #[.agg (encS x).toArray,.agg (encS y).toArray] W fun e w'=>e=.returned (.int .i64 (cfS x y))/\∃ q os',w'=grow (W.drewN q) os':=by
 letI:Lz:=⟨fun _=>none,true⟩
 have H:=w170 x.1 y.1 x.2 y.2
 let G:Gh:=⟨W.heap.size,⟨fun _ _=>none,fun _=>none⟩,fun _=>{},fun _=>none⟩
 have M:Zc G (qw []) W:=⟨fun h o e=>cd,fun b h e=>cd,fun b h e=>cd,fun k o h e=>cd,fun b o v _ e=>cd,fun r es _ e=>cd,zC _,fun b o e=>cd⟩
 rcases H.call G W #[.agg (encS x).toArray,.agg (encS y).toArray] M (by
  simp only[qC,qx]
  exact⟨_,_,rfl,kk_rel,_,_,rfl,kk_rel,rfl⟩) with ⟨_,hc⟩|⟨r,w',hr,_⟩
 ·refine Calls.mono hc ?_
  rintro e w' ⟨r,rfl,G',S⟩
  have hv:=(qA S.hval).1
  refine⟨by rw[hv];rfl,world_grown S.later.os S.later.tape S.later.output (S.later.drawn Z) S.later.size fun b hb=>(S.later.cold b hb Z).1⟩
 rw[Tryz.call170] at hr;cases hr
theorem sorted_uniq:∀ (L M:List KI),L.Perm M->L.Pairwise (fun a b=>ordI a b<0)->M.Pairwise (fun a b=>¬ordI b a<0)->M=L
 | [],M,hp,_,_=>by simpa using hp.symm.eq_nil
 | a::L,[],hp,_,_=>by simp at hp
 | a::L,b::M,hp,hs,ht=>by
  rw[List.pairwise_cons] at hs ht
  have hab:a=b:=by
   by_cases e:a=b
   ·exact e
   exfalso
   have h1:b∈L:=by
    have:b∈a::L:=hp.mem_iff.2 ao
    rcases zG.1 this with q|q
    ·exact absurd q.symm e
    exact q
   have h2:a∈M:=by
    have:a∈b::M:=hp.mem_iff.1 ao
    rcases zG.1 this with q|q
    ·exact absurd q e
    exact q
   exact ht.1 a h2 (hs.1 b h1)
  subst hab
  rw[sorted_uniq L M (List.Perm.cons_inv hp) hs.2 ht.2]
def valK (l:List KI):List Value:=(l.map fun k=>[Value.int .i64 k.1,.int .i64 k.2]).flatten
theorem Za (k:KI) (l:List KI):valK (k::l)=.int .i64 k.1::.int .i64 k.2::valK l:=rfl
theorem valK_len (l:List KI):(valK l).length=l.length*2:=by
 induction l with
 | nil=>rfl
 | cons k l ih=>rw[Za];simp[ih];omega
theorem kD:∀ (l:List KI) (t:Nat),(valK l)[t]? =(l[t / 2]?).map fun k=>if t%2=0 then Value.int .i64 k.1 else .int .i64 k.2
 | [],t=>by simp[valK]
 | k::l,0=>by simp[Za]
 | k::l,1=>by simp[Za]
 | k::l,t+2=>by
  rw[Za]
  simp only[List.getElem?_cons_succ,kD l t]
  rw[show (t+2) / 2=t / 2+1 by omega,show (t+2)%2=t%2 by omega]
  simp
section
variable [Lz]
theorem rel_valK {R:Rd}:∀ {l:List KI} {vs:List Value},qy R (l.map eK).flatten vs↔vs=valK l
 | [],vs=>by simp[qy,valK]
 | k::l,vs=>by
  simp only[zA,List.flatten_cons,zR,zV,qy,qN,Za]
  constructor
  ·rintro⟨_,_,rfl,⟨rfl,_⟩,_,_,rfl,⟨rfl,_⟩,h⟩;rw[rel_valK.1 h]
  rintro rfl;exact⟨_,_,rfl,⟨rfl,rfl⟩,_,_,rfl,⟨rfl,rfl⟩,rel_valK.2 rfl⟩
end
def subK (l:List KI) (hk:∀ k∈l,KS k):List KSub:=l.attach.map fun k=>⟨k.1,hk k.1 k.2⟩
theorem subK_val (l:List KI) (hk:∀ k∈l,KS k):(subK l hk).map (·.1)=l:=by
 simp only[subK,List.map_map,Function.comp_def]
 exact List.attach_map_subtype_val l
theorem flat_valK (d:Array KSub):(flatK encS 2 d).toList=valK (d.toList.map (·.1)):=by
 apply List.ext_getElem?
 intro t
 rw[kD]
 by_cases ht:t<d.size*2
 ·have h1:t<(flatK encS 2 d).size:=by rw[size_flatK];exact ht
  have h2:=get_flatK encS 2 d t ht
  have hd:t / 2<d.size:=aa
  rw[getElem!_pos _ t h1,getElem!_pos d (t / 2) hd] at h2
  rw[qi,Array.getElem?_eq_getElem h1,h2]
  simp only[qe,qi,Array.getElem?_eq_getElem hd,qf]
  rcases Nat.mod_two_eq_zero_or_one t with e|e<;>simp[e,encS]
 rw[qi,Array.getElem?_eq_none (by rw[size_flatK];omega)]
 simp only[qe,qi,Array.getElem?_eq_none (show d.size<=t / 2 by omega),Option.map_none]
theorem take_eq_of {α:Type} {a b:List α} {n:Nat} (h:∀ t,t<n->a[t]? =b[t]?):a.take n=b.take n:=by
 apply List.ext_getElem?
 intro t
 rw[qn,qn]
 split
 ·exact h t ab
 rfl
section
variable [Lz]
theorem w235c (l L:List KI) (n v:Nat) (d:DV) (hn:n<=l.length) (h62:l.length<4611686018427387904) (hd:d=.atrunc 901 v n\/(d=.aref 901 v/\n=l.length)) (hk:∀ k∈l.take n,KS k) (hp:L.Perm (l.take n)) (hs:L.Pairwise (fun a b=>ordI a b<0))
  {G:Gh} {w:World} {vs:Array Value} (M:Zc G (qw [(901,.arr v 2 151 (l.map eK))]) w) (hv:qC G (G.rd w) [d,.pv (.fn (.func 170) [] [])] vs.toList) (ha:(G.ρ 901).addr≠none) :
  CallsAs Tryz.prog 235 vs w fun r w'=>∃ G',Stepped G w (qw [(901,.arr v 2 151 (l.map eK))]) (.tup []) [(901,.arr v 2 151 ((L++l.drop n).map eK))] G' w' r:=by
 have hl1:qw [(901,MO.arr v 2 151 (l.map eK))] 901=some (.arr v 2 151 (l.map eK)):=by simp[qG]
 refine .inl ⟨Tryz.call235 _ _,?_⟩
 obtain⟨v1,v2,e,q1,q2⟩:=hv.two
 obtain⟨k1,k2,k3,k4,k5,k6,hA⟩:=M.ms 901 _ hl1
 have hfn:v2=.func (.func 170) #[] #[]:=by
  simp only[qx,qN,qy] at q2
  obtain⟨x,y,rfl,hx,hy⟩:=q2
  rw[show x= #[] by rw[<-Array.toArray_toList (xs:=x),hx],show y= #[] by rw[<-Array.toArray_toList (xs:=y),hy]]
 subst hfn
 rw[zJ] at k4 k5
 rcases hA with ⟨ha',hc⟩|⟨b,c,e1,e2,e3,e4,e5,e6,e7⟩
 ·exact absurd ha' ha
 have hv1:v1=.slice (some ⟨b,0,none⟩) n (G.ρ 901).cap:=by
  rcases hd with rfl|⟨rfl,hnl⟩
  ·simp only[qx] at q1;rw[(q1.2 k2).2,e1]
  simp only[qx] at q1;rw[q1.2 k2,e1,k4,hnl]
 subst hv1;subst e
 rw[zJ] at e6 e7
 have hc7:=rel_valK.1 e7
 have hbl:b<w.heap.size:=(zT.1 e3).1
 have hcs:l.length*2<=c.size:=by rw[e5];omega
 have hcget:∀ t,t<l.length*2->c[t]? =(valK l)[t]? :=by
  intro t ht
  rw[<-hc7,qn,if_pos ht,qi]
 obtain⟨D,hD⟩:∃ D:Array KSub,D=(subK (l.take n) hk).toArray:=⟨_,rfl⟩
 have hDl:D.toList.map (·.1)=l.take n:=by rw[hD];exact subK_val (l.take n) hk
 have hDs:D.size=n:=by rw[<-qj,<-zJ (f:=fun x:KSub=>x.1),hDl];simp;omega
 have hfl:(flatK encS 2 D).toList=valK (l.take n):=by rw[flat_valK,hDl]
 have hval:∀ t,t<n*2->(valK (l.take n))[t]? =(valK l)[t]? :=by
  intro t ht
  rw[kD,kD,qn,if_pos aa]
 have hH:HoldsK encS 2 w b 0 D:=by
  intro t ht
  rw[size_flatK,hDs] at ht
  have h1:(flatK encS 2 D)[t]? =c[t]? :=by rw[<-qi,hfl,hval t ht,hcget t aa]
  have h2:t<(flatK encS 2 D).size:=by rw[size_flatK,hDs];exact ht
  have h3:t<c.size:=aa
  constructor
  ·simp only[World.cell?,e3,Nat.zero_add,Option.isSome_none,qo,qq,id]
   rw[<-h1,Array.getElem?_eq_getElem h2,getElem!_pos _ t h2]
  simp[World.frozen?,e3]
 have key:=AnyQ.slices_SortFunc Tryz.lays235 2 Tryz.isAgg151 Tryz.sizeOf151 encS (fun _=>rfl) (fun x v hv=>by simp[encS] at hv;rcases hv with rfl|rfl<;>rfl) cfS cfS_swo 170 #[] b 0 (G.ρ 901).cap D w (Tryz.call170 ) (fun _ _ _ _ x y=>by rw[Array.append_empty];exact order_calls x y _) hH hbl (by rw[hDs];omega)
 rw[hDs] at key
 refine Calls.mono key ?_
 rintro e w' ⟨rfl,d',m,os,p1,p2,rfl⟩
 refine⟨_,rfl,?_⟩
 obtain⟨ps,_,pp⟩:=p1
 have hds:d'.size=n:=ps.trans hDs
 have hdl:d'.toList.map (·.1)=L:=by
  refine sorted_uniq L _ (hp.trans ?_) hs ?_
  ·have e1:(d'.extract 0 n).toList=d'.toList:=by rw[<-hds];simp
   have e2:(D.extract 0 n).toList=D.toList:=by rw[<-hDs];simp
   rw[e1,e2] at pp
   have:=pp.map (fun x:KSub=>x.1)
   rw[hDl] at this
   exact this.symm
  rw[List.pairwise_map,List.pairwise_iff_getElem]
  intro i j hi hj hij
  have:=of_decide_eq_false (show decide (ordI (d'[j]!).1 (d'[i]!).1<0)=false from p2 i j (zw _) hij (by rw[<-hds];simpa using hj))
  rw[getElem!_pos d' j an,getElem!_pos d' i ar] at this
  simpa using this
 have hfl':(flatK encS 2 d').toList=valK L:=by rw[flat_valK,hdl]
 have hLl:L.length=n:=by rw[hp.length_eq];simp;omega
 obtain⟨W1,hW1⟩:∃ W1,W1=grow (Sort.ahead w m) os:=⟨_,rfl⟩
 have hW:sortWorldK encS 2 w b 0 m d' os=putRowK encS 2 W1 b 0 d':=by
  rw[hW1,putRowK_grow _ _ _ _ _ _ _ (by exact hbl)];rfl
 have S1:Stepped G w (qw [(901,MO.arr v 2 151 (l.map eK))]) .dead [] G W1 undef:=by
  refine ki M.ctx (by rw[hW1];rfl) (by rw[hW1];rfl) (by rw[hW1];rfl) (by rw[hW1,size_grow];exact Nat.le_add_right _ _) (fun b' hb'=>by rw[hW1];exact heap_grow_old _ _ hb') aD rfl (fun _=>by rw[hW1];exact Nat.le_add_right _ _)
 have M1:=M.out S1
 have hu:upd [] (qw [(901,MO.arr v 2 151 (l.map eK))])=qw [(901,MO.arr v 2 151 (l.map eK))]:=by funext h;rfl
 rw[hu] at M1
 have hb1:W1.heap[b]? =some (.cells c 151 (0,0)):=by rw[hW1,heap_grow_old _ _ (by exact hbl)];exact e3
 have hw2:(putRowK encS 2 W1 b 0 d').heap=W1.heap.modify b (onCells (putCells id 0 (flatK encS 2 d'))):=rfl
 have hn2:(putRowK encS 2 W1 b 0 d').heap[b]? =some (.cells (putCells id 0 (flatK encS 2 d') c) 151 (0,0)):=by
  rw[hw2,Array.getElem?_modify,if_pos rfl,hb1];rfl
 have S2:=q7 (m:=.arr v 2 151 ((L++l.drop n).map eK)) (val:=.tup []) (r:=.tuple #[]) M1.ctx (B:=G.ρ 901) (h:=901) hl1 bc
  (w':=putRowK encS 2 W1 b 0 d') Z Z Z (by rw[hw2,Array.size_modify]) (fun b' hb'=>by
   rw[hw2,Array.getElem?_modify,if_neg (fun e=>hb' (by rw[<-e];exact e2))]) cg (by
   rw[Gh.qU]
   have hlen:(L++l.drop n).length=l.length:=by simp[hLl];omega
   refine⟨k1,k2,k3,by rw[zJ,hlen];exact k4,by rw[zJ,hlen];exact k5,fun e he=>by obtain⟨k,_,rfl⟩:=zF.1 he;rfl,.inr ⟨b,_,e1,e2,hn2,e4,by simp[putCells,e5],?_,?_⟩⟩
   all_goals rw[zJ,hlen]
   all_goals
    have hnew:(putCells id 0 (flatK encS 2 d') c).toList.take (l.length*2)=valK (L++l.drop n):=by
     have e0:valK (L++l.drop n)=(valK (L++l.drop n)).take (l.length*2):=by rw[zB];rw[valK_len,hlen];exact zC _
     rw[e0]
     refine take_eq_of fun t ht=>?_
     have htc:t<c.size:=aa
     rw[qi]
     simp only[putCells,Array.getElem?_mapIdx,Array.getElem?_eq_getElem htc,qf,zw,true_and,Nat.zero_add,Nat.sub_zero,size_flatK,hds,id]
     by_cases hq:t<n*2
     ·have h2:t<(flatK encS 2 d').size:=by rw[size_flatK,hds];exact hq
      rw[if_pos hq,getElem!_pos _ t h2,<-Array.getElem?_eq_getElem h2,<-qi,hfl',kD,kD,List.getElem?_append_left aa]
     rw[if_neg hq,<-Array.getElem?_eq_getElem htc,hcget t ht,kD,kD,qa aa,List.getElem?_drop,hLl]
     congr 2;omega
   ·rw[hnew]
    intro x hx
    have:∀ l:List KI,∀ x∈valK l,x.oneCell'=true:=by
     intro l
     induction l with
     | nil=>intro x hx;cases hx
     | cons k l ih=>
      intro x hx
      rw[Za] at hx
      rcases zG.1 hx with rfl|hx
      ·rfl
      rcases zG.1 hx with rfl|hx
      ·rfl
      exact ih x hx
    exact this _ x hx
   rw[hnew];exact rel_valK.2 Z) bV am
 rw[Gh.qU] at S2
 have S3:=S1.trans M (by rw[hu];exact S2)
 rw[hW]
 exact⟨G,by simpa [mrg] using S3⟩
end
theorem ck [Lz] [Fc] {n nb:Nat} {Q:Exit->St->Prop} {x:Code} {K:List Fr} {tm:List (Nat×DV)} {ms:List (Nat×MO)} (h:TK Tryz.prog n nb Q x K ⟨tm,ms⟩):CG n nb Q (.t x K tm ms):=h
section
variable [Lz] {P:Program} {Y:Tab} [qM P Y] {nb:Nat} {s:St} {dst:Option Tmp} {ty u:TypeId} {pos:String} {af:Array Edge} {gd:Option (Nat×Bool)} {t:TypeId} {x y z:Operand}
theorem B.slL {α:Type} {enc:α->List PV} {l:List α} {lo:Operand} {h v sz i:Nat} {k:IntKind} {n:Int} {e T:TypeId} (hx:ev1 s x=.aref h v) (hm:qw s.ms h=some (.arr v sz T (l.map enc))) (hlo:ev1 s lo=lit (.int k n)) (und:Y.underlying t=some (.slice e)) (hs:szT Y e=some sz)
  (hn:n=(i:Int)) (hi:i<l.length):Body P Y nb s ⟨dst,.slice t x (some lo) none none,ty,pos,af,gd⟩ (.awin h v i (l.length-i)) [] [h]:=by
 refine .inr (km.of fun σ G a w hv hl I=>?_)
 have hX:=hv x aY
 have hY:=hv lo aY
 rw[hx] at hX;rw[hlo] at hY
 have hY':=(qA hY).1
 have hlk:qw σ.ms h=some (.arr v sz T (l.map enc)):=by rw[hl h (.inl ao)];exact hm
 obtain⟨k1,k2,k3,k4,k5,k6,hA⟩:=I.ms _ _ hlk
 rw[zJ] at k4 k5
 rcases hA with ⟨_,hc⟩|⟨b,c,e1,_⟩
 ·rw[hc] at k5;omega
 simp only[qx] at hX
 have hX':=hX.2 k2
 rw[e1,k4] at hX'
 subst hn
 have hb:=jB (P:=P) (w:=w) (isS:=true) (len:=l.length) (cap:=(G.ρ h).cap) (lo:=some (.int k (i:Int))) (hi:=none) (l:=some (i:Int)) (h:=none) ⟨k,rfl⟩ trivial ao aJ aJ
 have hrun:(Instr.sliceAt t (.slice (some ⟨b,0,none⟩) l.length (G.ρ h).cap) (some (.int k (i:Int))) none none).run P w=.ok (.slice (some ⟨b,i*sz,none⟩) (l.length-i) ((G.ρ h).cap-i)) w:=by
  rw[kA (by simp[und]) und]
  simp only[Instr.slice,qt,qI und,qr,hb,qV hs,qu,zQ,Option.getD_none,zU]
  rw[if_neg aa]
  simp[Addr.add]
  exact Eq.symm
 refine⟨_,w,G,.inl ?_,qH I.ctxS (r:=.slice (some ⟨b,i*sz,none⟩) (l.length-i) ((G.ρ h).cap-i)) ?_ (fun k hk=>?_)⟩
 ·simp only[execOp,Option.map_none,qf,hX',hY',qt,hrun,qr,qu]
 ·simp only[qx]
  exact⟨by rw[k2];exact zC _,fun _=>⟨by rw[k4];omega,b,0,e1,by rw[k3];simp⟩⟩
 simp only[DV.refs,zg] at hk;subst hk;exact⟨_,hlk⟩
theorem B.clrK {l:List KI} {h v o n:Nat} {i:TypeInfo} {zv:Value} (hx:ev1 s x=.awin h v o n) (hm:qw s.ms h=some (.arr v 2 151 (l.map eK))) (hn:0<n) (hon:o+n=l.length) (und:Y.underlying t=some (.slice 151)) (hi:Y.info? 151=some i) (hz:i.zero=some zv) (hzc:zv.cells.toList=[.int .i64 0,.int .i64 0]) :
  Body P Y nb s ⟨none,.call ⟨.builtin .clear,⟨[x]⟩,⟨[t]⟩⟩,ty,pos,af,gd⟩ (.tup []) [(h,.arr v 2 151 ((l.take o++List.replicate n (0,0)).map eK))] [h]:=by
 refine .inr (km.of fun σ G a w hv hl I=>?_)
 have hX:=hv x (show x∈[x] by simp)
 rw[hx] at hX
 have hlk:qw σ.ms h=some (.arr v 2 151 (l.map eK)):=by rw[hl h (.inl ao)];exact hm
 obtain⟨k1,k2,k3,k4,k5,k6,hA⟩:=I.ms _ _ hlk
 rw[zJ] at k4 k5
 rcases hA with ⟨_,hc⟩|⟨b,c,e1,e2,e3,e4,e5,e6,e7⟩
 ·rw[hc] at k5;omega
 rw[zJ] at e6 e7
 have hc7:=rel_valK.1 e7
 simp only[qx] at hX
 obtain⟨_,b',off,g1,g2⟩:=hX.2 k2
 rw[e1] at g1
 simp only[zh,Addr.mk.injEq,and_true] at g1
 obtain⟨rfl,rfl⟩:=g1
 rw[k3,Nat.zero_add] at g2
 have hcs:l.length*2<=c.size:=by rw[e5];omega
 have hzl:(Builtin.zeroCells zv.cells n).toList=valK (List.replicate n (0,0)):=by
  rw[zeroCells_list,hzc]
  unfold valK
  rw[List.map_replicate]
 have hzr:(zeroValue 151).run P w=.ok zv w:=by simp[zeroValue,typeInfo,qM.inf P hi,hz]
 have hone:∀ l:List KI,∀ x∈valK l,x.oneCell'=true:=by
  intro l
  induction l with
  | nil=>intro x hx;cases hx
  | cons k l ih=>
   intro x hx
   rw[Za] at hx
   rcases zG.1 hx with rfl|hx
   ·rfl
   rcases zG.1 hx with rfl|hx
   ·rfl
   exact ih x hx
 have hst:=run_storeCells_at P b (o*2) 151 (valK (List.replicate n (0,0))) 0 c w e3 (by rw[valK_len];simp;omega) (hone _)
 obtain⟨row,hrow⟩:∃ row,row=c.toList.take (o*2)++valK (List.replicate n (0,0))++c.toList.drop (o*2+n*2):=⟨_,rfl⟩
 have hst':(storeCells ⟨b,o*2,none⟩ (valK (List.replicate n (0,0))) 0).run P w=.ok () (w.setRow b row.toArray):=by
  rw[hst,hrow];simp[valK_len]
 have hnz:n≠0:=aa
 have hrun:(Builtin.clear_ #[t] ty #[.slice (some ⟨b,o*2,none⟩) n ((G.ρ h).cap-o)]).run P w=.ok (.tuple #[]) (w.setRow b row.toArray):=by
  obtain⟨m,rfl⟩:∃ m,n=m+1:=⟨n-1,aa⟩
  simp only[Builtin.clear_,List.getElem?_toArray,List.getElem?_cons_zero,qt,qI und,qr,hzr,hzl,hst',qu]
 have hblk:∀ b',G.γ b'≠some h->(w.setRow b row.toArray).heap[b']? =w.heap[b']? :=fun b' hb'=>setRow_other w b b' _ (fun e=>hb' aB)
 have htk:row.take (l.length*2)=valK (l.take o++List.replicate n (0,0)):=by
  have h1:(c.toList.take (o*2))=valK (l.take o):=by
   have:c.toList.take (o*2)=(valK l).take (o*2):=by rw[<-hc7,List.take_take,Nat.min_eq_left aa]
   rw[this]
   apply List.ext_getElem?
   intro t
   rw[qn,kD,kD]
   by_cases ht:t<o*2
   ·rw[if_pos ht,qn,if_pos aa]
   rw[if_neg ht,qn,if_neg aa];rfl
  have h2:valK (l.take o++List.replicate n (0,0))=valK (l.take o)++valK (List.replicate n (0,0)):=by simp[valK]
  rw[hrow,h1,h2,List.take_left']
  rw[za,valK_len,valK_len,zn,qd];omega
 have S:=q7 (m:=.arr v 2 151 ((l.take o++List.replicate n (0,0)).map eK)) (val:=.tup []) (r:=.tuple #[]) I.ctxS (B:=G.ρ h) hlk bc
  (w':=w.setRow b row.toArray) Z Z Z ao hblk cg (by
   rw[Gh.qU]
   have hlen:(l.take o++List.replicate n (0,0)).length=l.length:=by simp;omega
   refine⟨k1,k2,k3,by rw[zJ,hlen];exact k4,by rw[zJ,hlen];exact k5,fun e he=>by obtain⟨k,_,rfl⟩:=zF.1 he;rfl,.inr ⟨b,_,e1,e2,setRow_heap w b c _ 151 _ e3,e4,?_,?_,?_⟩⟩
   ·rw[hrow];simp[valK_len];omega
   ·rw[zJ,hlen];show ∀ x∈row.take (l.length*2),_;rw[htk];exact hone _
   rw[zJ,hlen];show qy _ _ (row.take (l.length*2));rw[htk];exact rel_valK.2 Z) bV am
 rw[Gh.qU] at S
 refine⟨_,_,G,.inl ?_,S⟩
 have lift:∀ {q:Sem Value} {r:Value} {w':World},q.run P w=.ok r w'->(do Pure.pure (Next.value (<-q)):Sem Next).run P w=.ok (.value r) w':=by
  intro q r w' h
  simp only[qt,h,qr,qu]
 exact lift (q:=Builtin.clear_ _ _ _) (by simpa [g2] using hrun)
end
end Go.Lens.Tb
end
