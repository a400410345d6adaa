/- A part of the proof of PupilFieldsCardSaid, without conditions. -/
import Derived.Test.YtpfnmbpfhlllaaaGreatDoorP3
import Derived.Shelf.LaysM
import Derived.Shelf.Strconv.Itoa3
import Derived.Lib.AppendIntMem
import Derived.Test.YtpfnmbpfhlllaaaGreatDoorProg
import Derived.Shelf.Strconv.Atoi
set_option linter.unusedVariables false
set_option linter.unusedSimpArgs false
set_option linter.unusedSectionVars false
set_option maxRecDepth 100000
set_option maxHeartbeats 4000000
open Int (natAbs toNat)
open Prod (fst snd)
open List (getD replicate take drop)
open Nat (gcd)
open Go.Proofs.Tryz (prog)
open Go.Lib (decDigits)
section
namespace Go.Lens.Tb
open Go.Proofs Go.Lens.Un
variable [Lz]
attribute [local irreducible] TK PK T RG EfR Body CG
def len8:Nb:=[0,1,2,2,3,3,3,3,4,4,4,4,4,4,4,4,5,5,5,5,5,5,5,5,5,5,5,5,5,5,5,5,6,6,6,6,6,6,6,6,6,6,6,6,6,6,6,6,6,6,6,6,6,6,6,6,6,6,6,6,6,6,6,6,7,7,7,7,7,7,7,7,7,7,7,7,7,7,7,7,7,7,7,7,7,7,7,7,7,7,7,7,7,7,7,7,7,7,7,7,7,7,7,7,7,7,7,7,7,7,7,7,7,7,7,7,7,7,7,7,7,7,7,7,7,7,7,7,8,8,8,8,8,8,8,8,8,8,8,8,8,8,8,8,8,8,8,8,8,8,8,8,8,8,8,8,8,8,8,8,8,8,8,8,8,8,8,8,8,8,8,8,8,8,8,8,8,8,8,8,8,8,8,8,8,8,8,8,8,8,8,8,8,8,8,8,8,8,8,8,8,8,8,8,8,8,8,8,8,8,8,8,8,8,8,8,8,8,8,8,8,8,8,8,8,8,8,8,8,8,8,8,8,8,8,8,8,8,8,8,8,8,8,8,8,8,8,8,8,8,8,8,8,8,8,8]
theorem len8_ok:∀ k,k<256->(len8.getD k 0).toNat=q9 k:=by decide +kernel
theorem blen_256:∀ k,k<256->q9 k<=8:=by decide +kernel
def lA (K k:Nat) (p:Nat×Nat):Nat×Nat:=if K<=p.1 then (p.1 / K,p.2+k) else p
theorem lA_t {K k:Nat} {p:Nat×Nat} (h:K<=p.1):lA K k p=(p.1 / K,p.2+k):=by rw[lA,WK h]
theorem lA_f {K k:Nat} {p:Nat×Nat} (h:¬K<=p.1):lA K k p=p:=by rw[lA,WJ h]
theorem lA_blen {k:Nat} (p:Nat×Nat):q9 (lA (2 ^ k) k p).1+(lA (2 ^ k) k p).2=q9 p.1+p.2:=by
 by_cases h:2 ^ k<=p.1
 ·rw[lA_t h,blen_shift h]
  show q9 (p.1 / 2 ^ k)+(p.2+k)=_
  omega
 rw[lA_f h]
theorem lA_lt {K k N:Nat} {p:Nat×Nat} (hK:0<K) (h:p.1<K*N) (hN:K<=N):(lA K k p).1<N:=by
 by_cases g:K<=p.1
 ·rw[lA_t g];exact Xg h
 rw[lA_f g];omega
theorem lA_snd {K k n:Nat} {p:Nat×Nat} (h:p.2<=n):(lA K k p).2<=n+k:=by
 by_cases g:K<=p.1
 ·rw[lA_t g];exact Nat.add_le_add_right h k
 rw[lA_f g];omega
theorem len8_rng {k:Nat} (h:k<256):0<=byteAt (bsO len8) k/\byteAt (bsO len8) k<=8:=by
 rw[byteAt_bsO,len8_ok k h]
 have:=blen_256 k h
 omega
theorem len8_R1 {k:Nat} (h:k<256):R64 (byteAt (bsO len8) k):=by
 have:=len8_rng h
 unfold R64;omega
theorem len8_R2 {k n:Nat} (h:k<256) (hn:n<=56):R64 (((n:Nat):Int)+byteAt (bsO len8) k):=by
 have:=len8_rng h
 unfold R64;omega
theorem lA_small (x:Nat) (hx:x<B64):(lA 256 8 (lA 65536 16 (lA 4294967296 32 (x,0)))).1<256:=
 lA_lt ah (lA_lt (N:=256*256) ah (lA_lt (N:=65536*65536) ah (show x<4294967296*(65536*65536) from hx) ah) ah) ah
theorem lA_all (x:Nat) (hx:x<B64):(len8.getD (lA 256 8 (lA 65536 16 (lA 4294967296 32 (x,0)))).1 0).toNat+(lA 256 8 (lA 65536 16 (lA 4294967296 32 (x,0)))).2=q9 x:=by
 rw[len8_ok _ (lA_small x hx),show (256:Nat)=2 ^ 8 from rfl,lA_blen,show (65536:Nat)=2 ^ 16 from rfl,lA_blen,show (4294967296:Nat)=2 ^ 32 from rfl,lA_blen]
 rfl
theorem lA_end (x:Nat) (hx:x<B64):((snd (lA 256 8 (lA 65536 16 (lA 4294967296 32 (x,0)))):Nat):Int)+byteAt (bsO len8) (fst (lA 256 8 (lA 65536 16 (lA 4294967296 32 (x,0)))))=((q9 x:Nat):Int):=by
 rw[byteAt_bsO,<-lA_all x hx]
 omega
theorem blen_64 {x:Nat} (hx:x<B64):q9 x<=64:=by
 by_cases h:x=0
 ·subst h;decide
 have a:=blen_le h
 rcases KJ 64 (q9 x) with g|g
 ·have b:=Xj (show 0<2 by decide) (show 64<=q9 x-1 by omega)
  rw[show (2:Nat) ^ 64=B64 from rfl] at b
  omega
 exact g
theorem d_norm {y K M:Nat} (hy:y<B64) (h0:0<y) (hK:2 ^ (64-q9 y)=K) (hM:2 ^ (64-(64-q9 y))=M):K*M=4294967296*4294967296/\y*K<B64/\4294967296<=y*K:=by
 have hb:=blen_64 hy
 have a:=blen_le (show y≠0 by omega)
 have b:=kw y
 have hb0:q9 y≠0:=by intro e;rw[e] at b;omega
 have hKp:0<K:=by rw[<-hK];exact Wj ah
 refine⟨?_,?_,?_⟩
 ·rw[<-hK,<-hM,<-Nat.pow_add,show 64-q9 y+(64-(64-q9 y))=64 by omega]
 ·have:=(Xi hKp).2 b
  rw[<-hK,<-Nat.pow_add,show q9 y+(64-q9 y)=64 by omega,hK] at this
  exact this
 have:=Xh K a
 rw[<-hK,<-Nat.pow_add,show q9 y-1+(64-q9 y)=63 by omega,hK] at this
 omega
theorem d_facts {y K M hi lo V v1 v2 T1 a1 b1:Nat} (hn1:4294967296<=y*K) (hyK:y*K<B64) (hTV:hi*K+lo / M<y*K) (eV:y*K=V) (ev1:V / 4294967296=v1) (ev2:V%4294967296=v2) (eT1:hi*K+lo / M=T1) (ea1:lo*K%B64 / 4294967296=a1) (eb1:lo*K%B64%4294967296=b1) :
  0<v1/\v1<4294967296/\v2<4294967296/\v1*4294967296+v2=V/\T1<V/\a1<4294967296/\b1<4294967296/\V<B64/\0<V:=by
 grind
section
variable {v1 v2 V T u q r:Nat}
theorem d2_init (h1:0<v1) (h1l:v1<4294967296) (h2:v2<4294967296) (hV:v1*4294967296+v2=V) (hT:T<V) (hu:u<4294967296) (hb:T<B64):G2 v1 T ((T*4294967296+u) / V) (T / v1) (T-T / v1*v1)/\T-T / v1*v1<4294967296/\T / v1<B64:=by
 subst hV
 have e:T-T / v1*v1=T%v1:=by have:=Jh T v1;omega
 rw[e]
 exact⟨g2_init ah hu h1,KK (Wu _ h1) h1l,XI (JG _ _) hb⟩
theorem d2_body (h1:0<v1) (h2:v2<4294967296) (hV:v1*4294967296+v2=V) (hT:T<V) (hu:u<4294967296) (hr:r<4294967296) (h:G2 v1 T ((T*4294967296+u) / V) q r) (hc:(decide ((4294967296:Int)<=(q:Int))||decide (((4294967296*r+u:Nat):Int)<((q*v2:Nat):Int)))=true):1<=q/\G2 v1 T ((T*4294967296+u) / V) (q-1) (r+v1):=by
 subst hV
 rcases Jr ..▸hc with a|a
 ·have a:=Kt.1 (X6 a)
  exact (g2_big ah hu h2 hT h a).2
 have a:=Int.ofNat_lt.1 (X6 a)
 rw[KL 4294967296] at a
 exact g2_less h a
theorem d2_end (h1:0<v1) (hV:v1*4294967296+v2=V) (h:G2 v1 T ((T*4294967296+u) / V) q r) (hc:(decide ((4294967296:Int)<=(q:Int))||decide (((4294967296*r+u:Nat):Int)<((q*v2:Nat):Int)))=false):q=(T*4294967296+u) / V:=by
 subst hV
 have a:=XM (z7.1 hc).2
 refine g2_test h1 ah h ?_
 rw[KL r]
 omega
theorem d2_over (h1:0<v1) (h2:v2<4294967296) (hV:v1*4294967296+v2=V) (hT:T<V) (hu:u<4294967296) (h:G2 v1 T ((T*4294967296+u) / V) q r) (hr:(4294967296:Int)<=(r:Int)):q=(T*4294967296+u) / V:=by
 subst hV
 exact g2_over h1 ah hu h2 hT h (Kt.1 hr)
theorem d2_m (h:T<B64):T / v1*v1<B64:=XI (Xv _ _) h
theorem d2_m0:T / v1*v1<=T:=Xv _ _
theorem d2_qv (hc:(decide ((4294967296:Int)<=(q:Int))==false)=true) (h:v2<4294967296):q*v2<B64:=by
 have a:=XM (eq_of_beq hc)
 have a:q<=4294967296:=aa
 have:=Ka a (X2 (show v2<4294967295+1 from h))
 grind
theorem d2_le:(T*4294967296+u) / V*V<=T*4294967296+u:=Xv _ _
theorem d2_eq:T*4294967296+u-(T*4294967296+u) / V*V=(T*4294967296+u)%V:=by
 have:=Jh (T*4294967296+u) V
 omega
theorem d2_lt (hV:0<V) (hb:V<B64):T*4294967296+u-(T*4294967296+u) / V*V<B64:=by rw[d2_eq];exact KK (Wu _ hV) hb
theorem d2_md:((T*4294967296%B64)+u)%B64%B64=(T*4294967296+u)%B64:=by grind
theorem d2_rem {x:Nat} (hV:0<V) (e:T*4294967296+u-(T*4294967296+u) / V*V=x):x<V:=by rw[<-e,d2_eq];exact Wu _ hV
theorem d2_ql (hT:T<V) (hu:u<4294967296):(T*4294967296+u) / V<4294967296:=by
 refine Xg ?_
 omega
theorem d2_qH (hT:T<V) (hu:u<4294967296):(T*4294967296+u) / V*4294967296<B64:=by
 have:=d2_ql hT hu
 unfold B64;omega
theorem d2_qq {T2 w:Nat} (hT:T<V) (hu:u<4294967296) (hT2:T2<V) (hw:w<4294967296):(T*4294967296+u) / V*4294967296+(T2*4294967296+w) / V<B64:=by
 have:=d2_ql hT hu
 have:=d2_ql hT2 hw
 unfold B64;omega
theorem d2_q {hi lo y K M T2 b A B:Nat} (h:((hi*K+lo / M)*4294967296+A) / (y*K)*4294967296+(((hi*K+lo / M)*4294967296+A)%(y*K)*4294967296+B) / (y*K)=(hi*(4294967296*4294967296)+lo) / y) (eV:y*K=V) (eT:hi*K+lo / M=T) (ea:A=u) (eb:B=b) (e2:T*4294967296+u-(T*4294967296+u) / V*V=T2) :
  (((T*4294967296+u) / V*4294967296+(T2*4294967296+b) / V:Nat):Int)=(((hi*B64+lo) / y:Nat):Int):=by
 rw[d2_eq] at e2
 rw[eV,eT,ea,eb,e2] at h
 rw[h]
theorem d2_r {hi lo y K M T2 b A B:Nat} (h:(((hi*K+lo / M)*4294967296+A)%(y*K)*4294967296+B)%(y*K) / K=(hi*(4294967296*4294967296)+lo)%y) (eV:y*K=V) (eT:hi*K+lo / M=T) (ea:A=u) (eb:B=b) (e2:T*4294967296+u-(T*4294967296+u) / V*V=T2) :
  (((T2*4294967296+b-(T2*4294967296+b) / V*V) / K:Nat):Int)=(((hi*B64+lo)%y:Nat):Int):=by
 rw[d2_eq] at e2
 rw[eV,eT,ea,eb,e2] at h
 rw[d2_eq,h]
theorem d2_z1 {hi lo y:Nat} (h:(hi:Int)=0):((lo / y:Nat):Int)=(((hi*B64+lo) / y:Nat):Int):=by grind
theorem d2_z2 {hi lo y:Nat} (h:(hi:Int)=0):((lo%y:Nat):Int)=(((hi*B64+lo)%y:Nat):Int):=by grind
end
theorem un261:tab.underlying 261=some (.int (.u64)):=ae
theorem un5:tab.underlying 5=some (.int (.u8)):=ae
theorem un9:tab.underlying 9=some (.string):=ae
theorem w309 (x:Nat) (hx:x<B64):CKa 250 [WM (x:Int)] (vI (((q9 x):Nat):Int)):=by
 refine cG qf250 Z (nB Z) Z (Cj [(0,WM (((fst (lA 4294967296 32 (x,0))):Nat):Int)),(2,vI (((snd (lA 4294967296 32 (x,0))):Nat):Int))] [] Z Z Z (fun h1=>?_) (fun h1=>?_) ?_)
 ·replace h1:=X6 h1
  refine E Z (B.shrM (K:=4294967296) Z Z ah ah) (pk Z ?_)
  show Sub _ _ _
  first|(rw[lA_t (K:=4294967296) bl];exact sb rfl rfl rfl)|(rw[lA_f (K:=4294967296) bm];exact sb Z Z Z)
 ·replace h1:=XM h1
  refine pk Z ?_
  show Sub _ _ _
  first|(rw[lA_t (K:=4294967296) bl];exact sb rfl rfl rfl)|(rw[lA_f (K:=4294967296) bm];exact sb Z Z Z)
 have hs1:snd (lA 4294967296 32 (x,0))<=32:=lA_snd (p:=(x,0)) (zB 0)
 refine Cj [(0,WM (((fst (lA 65536 16 (lA 4294967296 32 (x,0)))):Nat):Int)),(2,vI (((snd (lA 65536 16 (lA 4294967296 32 (x,0)))):Nat):Int))] [] Z Z Z (fun h2=>?_) (fun h2=>?_) ?_
 ·replace h2:=X6 h2
  refine E Z (B.shrM (K:=65536) Z Z ah ah) (E Z (B.add Z Z bo) (pk Z ?_))
  show Sub _ _ _
  first|(rw[lA_t (K:=65536) bl];exact sb rfl rfl rfl)|(rw[lA_f (K:=65536) bm];exact sb Z Z Z)
 ·replace h2:=XM h2
  refine pk Z ?_
  show Sub _ _ _
  first|(rw[lA_t (K:=65536) bl];exact sb rfl rfl rfl)|(rw[lA_f (K:=65536) bm];exact sb Z Z Z)
 have hs2:snd (lA 65536 16 (lA 4294967296 32 (x,0)))<=48:=lA_snd hs1
 refine Cj [(0,WM (((fst (lA 256 8 (lA 65536 16 (lA 4294967296 32 (x,0))))):Nat):Int)),(2,vI (((snd (lA 256 8 (lA 65536 16 (lA 4294967296 32 (x,0))))):Nat):Int))] [] Z Z Z (fun h3=>?_) (fun h3=>?_) ?_
 ·replace h3:=X6 h3
  refine E Z (B.shrM (K:=256) Z Z ah ah) (E Z (B.add Z Z bo) (pk Z ?_))
  show Sub _ _ _
  first|(rw[lA_t (K:=256) bl];exact sb rfl rfl rfl)|(rw[lA_f (K:=256) bm];exact sb Z Z Z)
 ·replace h3:=XM h3
  refine pk Z ?_
  show Sub _ _ _
  first|(rw[lA_t (K:=256) bl];exact sb rfl rfl rfl)|(rw[lA_f (K:=256) bm];exact sb Z Z Z)
 have hs3:snd (lA 256 8 (lA 65536 16 (lA 4294967296 32 (x,0))))<=56:=lA_snd hs2
 have h3x:=lA_small x hx
 have hl8:len8.length=256:=by decide +kernel
 have hb8:=len8_rng (k:=fst (lA 256 8 (lA 65536 16 (lA 4294967296 32 (x,0))))) h3x
 exact E Z (B.toBN Z un237 un5 aa Z) (E Z (B.sidx Z Z un9 Z (show (fst (lA 256 8 (lA 65536 16 (lA 4294967296 32 (x,0)))))<List.length len8 from aa)) (E Z (B.toI Z un5 un3 bo Z) (E Z (B.add Z Z bo) (Rt Z (lF Z (li (by exact lA_end x hx)))))))
theorem w293 (x:Nat) (hx:x<B64):CKa 242 [WM (x:Int)] (vI (((64-q9 x):Nat):Int)):=by
 refine cG qf242 Z (nB Z) Z ?_
 have hbl:=blen_64 hx
 exact C Z (w309 x aa) Z Z Z (E Z (B.sub Z Z bg) (Rt Z (lF Z (li (by exact (Int.ofNat_sub hbl).symm)))))
theorem w292 (hi lo y:Nat) (hy:y<B64) (hlo:lo<B64) (hlt:hi<y):CKa 241 [WM (hi:Int),WM (lo:Int),WM (y:Int)] (.tup [WM ((((hi*B64+lo) / y):Nat):Int),WM ((((hi*B64+lo)%y):Nat):Int)]):=by
 refine cG qf241 Z (nB Z) Z (Cp Z Z (fun h1=>?_) (fun h1=>?_))
 ·exact absurd h1 aa
 refine Cp Z Z (fun h2=>?_) (fun h2=>?_)
 ·exact absurd h2 aa
 refine Cp Z Z (fun h3=>?_) (fun h3=>?_)
 ·exact E Z (B.quoM Z Z aa aa) (E Z (B.remM Z Z aa) (Dr Z ae (Rt Z (lF Z (ZF (li bp) (li bp))))))
 refine C Z (w293 y aa) Z Z Z (E Z (B.toUN (n:=(64-q9 y)) Z un3 un261 aa Z) ?_)
 have hbl:=blen_64 hy
 obtain⟨K,hK⟩:∃ K,2 ^ (64-q9 y)=K:=⟨_,rfl⟩
 obtain⟨M,hM⟩:∃ M,2 ^ (64-(64-q9 y))=M:=⟨_,rfl⟩
 obtain⟨hKM,hyK,hn1⟩:=d_norm hy aa hK hM
 have hdh:=div_halves (h:=4294967296) (a:=lo*K%B64 / 4294967296) (b:=lo*K%B64%4294967296) hKM ah aa hlt hlo Z rfl
 have hTV:=hdh.2.2.1
 have hlM:=hdh.2.2.2.1
 have hKp:=hdh.2.2.2.2
 have hhK:hi*K<B64:=XI (Xh K (KH hlt)) hyK
 refine E Z (B.shlN Z Z aa hK hyK) (E Z (B.shrM (K:=4294967296) Z Z ah ah) (E Z (B.andK 32 4294967296 Z Z aa ah ah ah) (E Z (B.shlN Z Z aa hK hhK) (E Z (B.subN (a:=64) Z Z aa ah) (E Z (B.shrM Z Z aa hM) (E Z (B.orN (64-q9 y) Z Z hK Z hlM aa) (E Z (B.shlM Z Z aa hK) (E Z (B.shrM (K:=4294967296) Z Z ah ah) (E Z (B.andK 32 4294967296 Z Z (Wu _ ah) ah ah ah) ?_)))))))))
 refine tk 15 Z ?_
 refine tn ⟨[(2,WM (((y*K):Nat):Int)),(8,WM (((64-q9 y):Nat):Int)),(9,WM ((((y*K) / 4294967296):Nat):Int)),(10,WM ((((y*K)%4294967296):Nat):Int)),(11,WM ((((hi*K)+(lo / M)):Nat):Int)),(13,WM ((((lo*K%B64) / 4294967296):Nat):Int)),(14,WM ((((lo*K%B64)%4294967296):Nat):Int))],[]⟩ rfl rfl Z ?_
 obtain⟨V,eV⟩:∃ z,(y*K)=z:=⟨_,rfl⟩
 obtain⟨v1,ev1⟩:∃ z,(V / 4294967296)=z:=⟨_,rfl⟩
 obtain⟨v2,ev2⟩:∃ z,(V%4294967296)=z:=⟨_,rfl⟩
 obtain⟨T1,eT1⟩:∃ z,((hi*K)+(lo / M))=z:=⟨_,rfl⟩
 obtain⟨a1,ea1⟩:∃ z,((lo*K%B64) / 4294967296)=z:=⟨_,rfl⟩
 obtain⟨b1,eb1⟩:∃ z,((lo*K%B64)%4294967296)=z:=⟨_,rfl⟩
 rw[eV,ev1,ev2,eT1,ea1,eb1]
 obtain⟨hv1p,hv1l,hv2l,hVe,hT1,ha1,hb1,hV64,hVp⟩:=d_facts hn1 hyK hTV eV ev1 ev2 eT1 ea1 eb1
 refine kc (E Z (B.quoM Z Z aa hv1p) (E Z (B.mulN Z Z (d2_m aa)) (E Z (B.subN Z Z (d2_m0) aa) (l2 (fun (q:Nat) (r:Nat)=>[(2,WM (V:Int)),(8,WM (((64-q9 y):Nat):Int)),(9,WM (v1:Int)),(10,WM (v2:Int)),(11,WM (T1:Int)),(13,WM (a1:Int)),(14,WM (b1:Int)),(15,WM (q:Int)),(16,WM (r:Int))]) (fun _ _=>[]) (fun q r=>G2 v1 T1 ((T1*4294967296+a1) / V) q r/\r<4294967296/\q<B64) (fun q _=>q) (T1 / v1) (T1-T1 / v1*v1) Z ?_ (sb Z Z Z) ?_))))
 · exact d2_init hv1p hv1l hv2l hVe hT1 ha1 aa
 intro q r hI0
 refine Em Z Z Z Z ?_
 refine Em Z Z Z Z ?_
 refine Eg Z Z (fun hc=>B.mulN (qu Z hc) (qu Z hc) (d2_qv hc hv2l)) Z ?_
 refine Em Z Z Z Z ?_
 refine Eg Z Z (fun hc=>B.mulN (a:=4294967296) Z (qu Z hc) bq) Z ?_
 refine Em Z Z Z Z ?_
 refine Eg Z Z (fun hc=>B.addN (qu Z hc) (qu Z hc) bq) Z (Eg Z Z (fun hc=>B.gtr (qu Z hc) (qu Z hc)) Z (E Z (B.pO Z Z Z Z Z) (Cb Z Z (fun h4=>?_) (fun h4=>?_))))
 ·have hbd:=d2_body hv1p hv2l hVe hT1 ha1 hI0.2.1 hI0.1 ab
  refine E Z (B.subN Z Z hbd.1 aa) (E Z (B.addN Z Z aa) (Cp Z Z (fun h5=>?_) (fun h5=>?_)))
  ·refine tk 21 Z ?_
   refine tn ⟨[(2,WM (V:Int)),(8,WM (((64-q9 y):Nat):Int)),(9,WM (v1:Int)),(10,WM (v2:Int)),(11,WM (T1:Int)),(13,WM (a1:Int)),(14,WM (b1:Int)),(15,WM (((q-1):Nat):Int))],[]⟩ rfl rfl Z ?_
   have eq15:(q-1)=((T1*4294967296+a1) / V):=by first|exact d2_end hv1p hVe (Wz hI0) ab|exact d2_over hv1p hv2l hVe hT1 ha1 (Wx hbd) ab
   rw[eq15]
   refine kc (E Z (B.mulM Z Z) (E Z (B.addM Z Z) (E Z (B.mulM Z Z) (E Z (B.subF (T1*4294967296+a1) Z Z (d2_le) (d2_lt hVp hV64) (d2_md)) ?_))))
   refine tk 22 Z ?_
   refine tn ⟨[(2,WM (V:Int)),(8,WM (((64-q9 y):Nat):Int)),(9,WM (v1:Int)),(10,WM (v2:Int)),(14,WM (b1:Int)),(15,WM ((((T1*4294967296+a1) / V):Nat):Int)),(17,WM ((((T1*4294967296+a1)-((T1*4294967296+a1) / V)*V):Nat):Int))],[]⟩ rfl rfl Z ?_
   obtain⟨T2,eT2⟩:∃ z,((T1*4294967296+a1)-((T1*4294967296+a1) / V)*V)=z:=⟨_,rfl⟩
   rw[eT2]
   have hT2:=d2_rem hVp eT2
   refine kc (E Z (B.quoM Z Z aa hv1p) (E Z (B.mulN Z Z (d2_m aa)) (E Z (B.subN Z Z (d2_m0) aa) (l2 (fun (q:Nat) (r:Nat)=>[(2,WM (V:Int)),(8,WM (((64-q9 y):Nat):Int)),(9,WM (v1:Int)),(10,WM (v2:Int)),(14,WM (b1:Int)),(15,WM ((((T1*4294967296+a1) / V):Nat):Int)),(16,WM (r:Int)),(17,WM (T2:Int)),(18,WM (q:Int))]) (fun _ _=>[]) (fun q r=>G2 v1 T2 ((T2*4294967296+b1) / V) q r/\r<4294967296/\q<B64) (fun q _=>q) (T2 / v1) (T2-T2 / v1*v1) Z ?_ (sb Z Z Z) ?_))))
   · exact d2_init hv1p hv1l hv2l hVe hT2 hb1 aa
   intro q r hI1
   refine Em Z Z Z Z ?_
   refine Em Z Z Z Z ?_
   refine Eg Z Z (fun hc=>B.mulN (qu Z hc) (qu Z hc) (d2_qv hc hv2l)) Z ?_
   refine Em Z Z Z Z ?_
   refine Eg Z Z (fun hc=>B.mulN (a:=4294967296) Z (qu Z hc) bq) Z ?_
   refine Em Z Z Z Z ?_
   refine Eg Z Z (fun hc=>B.addN (qu Z hc) (qu Z hc) bq) Z (Eg Z Z (fun hc=>B.gtr (qu Z hc) (qu Z hc)) Z (E Z (B.pO Z Z Z Z Z) (Cb Z Z (fun h6=>?_) (fun h6=>?_))))
   ·have hbd:=d2_body hv1p hv2l hVe hT2 hb1 hI1.2.1 hI1.1 ab
    refine E Z (B.subN Z Z hbd.1 aa) (E Z (B.addN Z Z aa) (Cp Z Z (fun h7=>?_) (fun h7=>?_)))
    ·refine tk 28 Z ?_
     refine tn ⟨[(2,WM (V:Int)),(8,WM (((64-q9 y):Nat):Int)),(14,WM (b1:Int)),(15,WM ((((T1*4294967296+a1) / V):Nat):Int)),(17,WM (T2:Int)),(18,WM (((q-1):Nat):Int))],[]⟩ rfl rfl Z ?_
     have eq18:(q-1)=((T2*4294967296+b1) / V):=by first|exact d2_end hv1p hVe (Wz hI1) ab|exact d2_over hv1p hv2l hVe hT2 hb1 (Wx hbd) ab
     rw[eq18]
     exact kc (E Z (B.mulN Z Z (d2_qH hT1 ha1)) (E Z (B.addN Z Z (d2_qq hT1 ha1 hT2 hb1)) (E Z (B.mulM Z Z) (E Z (B.addM Z Z) (E Z (B.mulM Z Z) (E Z (B.subF (T2*4294967296+b1) Z Z (d2_le) (d2_lt hVp hV64) (d2_md)) (E Z (B.shrM Z Z aa hK) (Rt Z (lF Z (ZF (li bp) (li bp)))))))))))
    refine pk Z (L2 (q-1) (r+v1) ?_ ?_ (sb Z Z Z))
    · exact⟨hbd.2,aa,aa⟩
    · omega
   refine tk 28 Z ?_
   refine tn ⟨[(2,WM (V:Int)),(8,WM (((64-q9 y):Nat):Int)),(14,WM (b1:Int)),(15,WM ((((T1*4294967296+a1) / V):Nat):Int)),(17,WM (T2:Int)),(18,WM (q:Int))],[]⟩ rfl rfl Z ?_
   have eq18:q=((T2*4294967296+b1) / V):=by first|exact d2_end hv1p hVe (Wz hI1) ab|exact d2_over hv1p hv2l hVe hT2 hb1 (Wx hbd) ab
   rw[eq18]
   exact kc (E Z (B.mulN Z Z (d2_qH hT1 ha1)) (E Z (B.addN Z Z (d2_qq hT1 ha1 hT2 hb1)) (E Z (B.mulM Z Z) (E Z (B.addM Z Z) (E Z (B.mulM Z Z) (E Z (B.subF (T2*4294967296+b1) Z Z (d2_le) (d2_lt hVp hV64) (d2_md)) (E Z (B.shrM Z Z aa hK) (Rt Z (lF Z (ZF (li bp) (li bp)))))))))))
  refine pk Z (L2 (q-1) (r+v1) ?_ ?_ (sb Z Z Z))
  · exact⟨hbd.2,aa,aa⟩
  · omega
 refine tk 21 Z ?_
 refine tn ⟨[(2,WM (V:Int)),(8,WM (((64-q9 y):Nat):Int)),(9,WM (v1:Int)),(10,WM (v2:Int)),(11,WM (T1:Int)),(13,WM (a1:Int)),(14,WM (b1:Int)),(15,WM (q:Int))],[]⟩ rfl rfl Z ?_
 have eq15:q=((T1*4294967296+a1) / V):=by first|exact d2_end hv1p hVe (Wz hI0) ab|exact d2_over hv1p hv2l hVe hT1 ha1 (Wx hbd) ab
 rw[eq15]
 refine kc (E Z (B.mulM Z Z) (E Z (B.addM Z Z) (E Z (B.mulM Z Z) (E Z (B.subF (T1*4294967296+a1) Z Z (d2_le) (d2_lt hVp hV64) (d2_md)) ?_))))
 refine tk 22 Z ?_
 refine tn ⟨[(2,WM (V:Int)),(8,WM (((64-q9 y):Nat):Int)),(9,WM (v1:Int)),(10,WM (v2:Int)),(14,WM (b1:Int)),(15,WM ((((T1*4294967296+a1) / V):Nat):Int)),(17,WM ((((T1*4294967296+a1)-((T1*4294967296+a1) / V)*V):Nat):Int))],[]⟩ rfl rfl Z ?_
 obtain⟨T2,eT2⟩:∃ z,((T1*4294967296+a1)-((T1*4294967296+a1) / V)*V)=z:=⟨_,rfl⟩
 rw[eT2]
 have hT2:=d2_rem hVp eT2
 refine kc (E Z (B.quoM Z Z aa hv1p) (E Z (B.mulN Z Z (d2_m aa)) (E Z (B.subN Z Z (d2_m0) aa) (l2 (fun (q:Nat) (r:Nat)=>[(2,WM (V:Int)),(8,WM (((64-q9 y):Nat):Int)),(9,WM (v1:Int)),(10,WM (v2:Int)),(14,WM (b1:Int)),(15,WM ((((T1*4294967296+a1) / V):Nat):Int)),(16,WM (r:Int)),(17,WM (T2:Int)),(18,WM (q:Int))]) (fun _ _=>[]) (fun q r=>G2 v1 T2 ((T2*4294967296+b1) / V) q r/\r<4294967296/\q<B64) (fun q _=>q) (T2 / v1) (T2-T2 / v1*v1) Z ?_ (sb Z Z Z) ?_))))
 · exact d2_init hv1p hv1l hv2l hVe hT2 hb1 aa
 intro q r hI1
 refine Em Z Z Z Z ?_
 refine Em Z Z Z Z ?_
 refine Eg Z Z (fun hc=>B.mulN (qu Z hc) (qu Z hc) (d2_qv hc hv2l)) Z ?_
 refine Em Z Z Z Z ?_
 refine Eg Z Z (fun hc=>B.mulN (a:=4294967296) Z (qu Z hc) bq) Z ?_
 refine Em Z Z Z Z ?_
 refine Eg Z Z (fun hc=>B.addN (qu Z hc) (qu Z hc) bq) Z (Eg Z Z (fun hc=>B.gtr (qu Z hc) (qu Z hc)) Z (E Z (B.pO Z Z Z Z Z) (Cb Z Z (fun h8=>?_) (fun h8=>?_))))
 ·have hbd:=d2_body hv1p hv2l hVe hT2 hb1 hI1.2.1 hI1.1 ab
  refine E Z (B.subN Z Z hbd.1 aa) (E Z (B.addN Z Z aa) (Cp Z Z (fun h9=>?_) (fun h9=>?_)))
  ·refine tk 28 Z ?_
   refine tn ⟨[(2,WM (V:Int)),(8,WM (((64-q9 y):Nat):Int)),(14,WM (b1:Int)),(15,WM ((((T1*4294967296+a1) / V):Nat):Int)),(17,WM (T2:Int)),(18,WM (((q-1):Nat):Int))],[]⟩ rfl rfl Z ?_
   have eq18:(q-1)=((T2*4294967296+b1) / V):=by first|exact d2_end hv1p hVe (Wz hI1) ab|exact d2_over hv1p hv2l hVe hT2 hb1 (Wx hbd) ab
   rw[eq18]
   exact kc (E Z (B.mulN Z Z (d2_qH hT1 ha1)) (E Z (B.addN Z Z (d2_qq hT1 ha1 hT2 hb1)) (E Z (B.mulM Z Z) (E Z (B.addM Z Z) (E Z (B.mulM Z Z) (E Z (B.subF (T2*4294967296+b1) Z Z (d2_le) (d2_lt hVp hV64) (d2_md)) (E Z (B.shrM Z Z aa hK) (Rt Z (lF Z (ZF (li bp) (li bp)))))))))))
  refine pk Z (L2 (q-1) (r+v1) ?_ ?_ (sb Z Z Z))
  · exact⟨hbd.2,aa,aa⟩
  · omega
 refine tk 28 Z ?_
 refine tn ⟨[(2,WM (V:Int)),(8,WM (((64-q9 y):Nat):Int)),(14,WM (b1:Int)),(15,WM ((((T1*4294967296+a1) / V):Nat):Int)),(17,WM (T2:Int)),(18,WM (q:Int))],[]⟩ rfl rfl Z ?_
 have eq18:q=((T2*4294967296+b1) / V):=by first|exact d2_end hv1p hVe (Wz hI1) ab|exact d2_over hv1p hv2l hVe hT2 hb1 (Wx hbd) ab
 rw[eq18]
 exact kc (E Z (B.mulN Z Z (d2_qH hT1 ha1)) (E Z (B.addN Z Z (d2_qq hT1 ha1 hT2 hb1)) (E Z (B.mulM Z Z) (E Z (B.addM Z Z) (E Z (B.mulM Z Z) (E Z (B.subF (T2*4294967296+b1) Z Z (d2_le) (d2_lt hVp hV64) (d2_md)) (E Z (B.shrM Z Z aa hK) (Rt Z (lF Z (ZF (li bp) (li bp)))))))))))
theorem ite01 {p:Prop} [Decidable p]:(if p then (1:Nat) else 0)<=1:=by split<;>omega
def gq (a b d:Nat):Nat:=if d<=a then 18446744073709551615 else (a*B64+b) / d
def gr (a b d:Nat):Nat:=if d<=a then (b+d)%B64 else (a*B64+b)%d
def gc (a b d:Nat):Nat:=if d<=a then (b+d) / B64 else 0
section
variable {a b d:Nat}
theorem gq_t (h:(d:Int)<=(a:Int)):gq a b d=18446744073709551615:=WK (Kt.1 h)
theorem gr_t (h:(d:Int)<=(a:Int)):gr a b d=(b+d)%B64:=WK (Kt.1 h)
theorem gc_t (h:(d:Int)<=(a:Int)):gc a b d=(b+d) / B64:=WK (Kt.1 h)
theorem gq_f (h:¬(d:Int)<=(a:Int)):gq a b d=(a*B64+b) / d:=WJ fun e=>h (Kt.2 e)
theorem gr_f (h:¬(d:Int)<=(a:Int)):gr a b d=(a*B64+b)%d:=WJ fun e=>h (Kt.2 e)
theorem gc_f (h:¬(d:Int)<=(a:Int)):gc a b d=0:=WJ fun e=>h (Kt.2 e)
end
theorem tops {β:Nat} {w v:List Nat} (hw:Dg β w) (hv:Dg β v) (hwl:w.length=v.length+1) (hn:2<=v.length) :
  val β w=((w.getD v.length 0*β+w.getD (v.length-1) 0)*β+w.getD (v.length-2) 0)*β ^ (v.length-2)+val β (w.take (v.length-2))/\
  val β v=(v.getD (v.length-1) 0*β+v.getD (v.length-2) 0)*β ^ (v.length-2)+val β (v.take (v.length-2))/\val β (w.take (v.length-2))<β ^ (v.length-2)/\val β (v.take (v.length-2))<β ^ (v.length-2):=by
 obtain⟨m,e⟩:∃ m,v.length=m+2:=⟨v.length-2,aa⟩
 rw[e,show m+2-1=m+1 from rfl,show m+2-2=m from rfl]
 have a:=kh (β:=β) (l:=w) (n:=m+2) aa
 rw[jb,jb] at a
 have b:=kh (β:=β) (l:=v) (n:=m+1) aa
 rw[jb] at b
 have c:=jR (hw.take m)
 have d:=jR (hv.take m)
 grind
theorem top_le {β u2 x0 x1 y1 y2 w0 v0 B:Nat} (hlt:((x0*β+x1)*β+u2)*B+w0<β*((y1*β+y2)*B+v0)) (hy2:y2<β) (hv:v0<B):x0<=y1:=by
 rcases KJ y1 x0 with h|h
 ·exfalso
  have hB:0<B:=aa
  have h1:(y1*β+y2)*B+v0<(y1*β+y2+1)*B:=by grind
  have h2:(y1*β+y2+1)*B<=((y1+1)*β)*B:=Xh _ (by rw[Wa,Wg];omega)
  have h3:β*(((y1+1)*β)*B)<=x0*β*β*B:=by
   have:=Xh (β*β*B) (show y1+1<=x0 from h)
   grind
  have h4:=Xw β (KH (XJ h1 h2))
  grind
 exact h
section
variable {w v x y z:List Nat} {q r c i b s:Nat}
theorem st_init (hw:Dg B64 w) (hv:Dg B64 v) (hwl:w.length=v.length+1) (hn:2<=v.length) (hnm:B64<=2*v.getD (v.length-1) 0) (hlt:val B64 w<B64*val B64 v) :
  GI B64 (v.getD (v.length-1) 0) (w.getD v.length 0*B64+w.getD (v.length-1) 0) (val B64 w / val B64 v) (gq (w.getD v.length 0) (w.getD (v.length-1) 0) (v.getD (v.length-1) 0)) (gr (w.getD v.length 0) (w.getD (v.length-1) 0) (v.getD (v.length-1) 0)+gc (w.getD v.length 0) (w.getD (v.length-1) 0) (v.getD (v.length-1) 0)*B64)/\gr (w.getD v.length 0) (w.getD (v.length-1) 0) (v.getD (v.length-1) 0)<B64/\gc (w.getD v.length 0) (w.getD (v.length-1) 0) (v.getD (v.length-1) 0)<=1:=by
 obtain⟨hW,hV,hw0,hv0⟩:=tops hw hv hwl hn
 have p0:0<B64:=ah
 have hx1:=hw.get p0 (v.length-1)
 have hx2:=hw.get p0 (v.length-2)
 have hy1:=hv.get p0 (v.length-1)
 have hy2:=hv.get p0 (v.length-2)
 have hlt2:=hlt
 rw[hW,hV] at hlt2
 have hle:=top_le hlt2 hy2 hv0
 generalize w.getD v.length 0=x0 at*
 generalize w.getD (v.length-1) 0=x1 at*
 generalize v.getD (v.length-1) 0=y1 at*
 by_cases h:y1<=x0
 ·have:x0=y1:=aa
  subst this
  rw[gq_t (Kt.2 h),gr_t (Kt.2 h),gc_t (Kt.2 h)]
  have e:=Jl (x1+x0) B64
  refine⟨guess_max qM hlt ?_,Wu _ p0,?_⟩
  ·rw[e];unfold B64;omega
  grind
 have h':¬(y1:Int)<=(x0:Int):=fun e=>h (Kt.1 e)
 rw[gq_f h',gr_f h',gc_f h',KU,KD]
 have hy0:0<y1:=aa
 refine⟨guess_div qM hW hV hx2 hw0 hy0 ?_,KK (Wu _ hy0) hy1,zt _⟩
 refine Xg ?_
 grind
theorem st_less (hw:Dg B64 w) (hv:Dg B64 v) (hwl:w.length=v.length+1) (hn:2<=v.length) (hnm:B64<=2*v.getD (v.length-1) 0) (hlt:val B64 w<B64*val B64 v)
  (h:GI B64 (v.getD (v.length-1) 0) (w.getD v.length 0*B64+w.getD (v.length-1) 0) (val B64 w / val B64 v) q (r+c*B64)) (hc:(c:Int)=0) (hr:r<B64)
  (hs:(bif decide ((((q*v.getD (v.length-2) 0 / B64):Nat):Int)<(r:Int)) then true else bif decide ((((q*v.getD (v.length-2) 0 / B64):Nat):Int)=(r:Int)) then decide ((((q*v.getD (v.length-2) 0%B64):Nat):Int)<=((w.getD (v.length-2) 0:Nat):Int)) else false)=false) :
  1<=q/\GI B64 (v.getD (v.length-1) 0) (w.getD v.length 0*B64+w.getD (v.length-1) 0) (val B64 w / val B64 v) (q-1) ((r+v.getD (v.length-1) 0)%B64+(r+v.getD (v.length-1) 0) / B64*B64)/\(r+v.getD (v.length-1) 0) / B64<=1:=by
 obtain⟨hW,hV,hw0,hv0⟩:=tops hw hv hwl hn
 have p0:0<B64:=ah
 have hx2:=hw.get p0 (v.length-2)
 have hy1:=hv.get p0 (v.length-1)
 have:c=0:=aa
 subst this
 rw[KU,KD] at h
 have e:=Jl (q*v.getD (v.length-2) 0) B64
 have ht:r*B64+w.getD (v.length-2) 0<q*v.getD (v.length-2) 0:=by grind
 rw[Jl]
 refine⟨(guess_less hW hV hw0 h ht).1,(guess_less hW hV hw0 h ht).2,?_⟩
 grind
theorem st_stopT (hw:Dg B64 w) (hv:Dg B64 v) (hwl:w.length=v.length+1) (hn:2<=v.length) (hnm:B64<=2*v.getD (v.length-1) 0) (hlt:val B64 w<B64*val B64 v)
  (h:GI B64 (v.getD (v.length-1) 0) (w.getD v.length 0*B64+w.getD (v.length-1) 0) (val B64 w / val B64 v) q (r+c*B64)) (hc:(c:Int)=0)
  (hs:(bif decide ((((q*v.getD (v.length-2) 0 / B64):Nat):Int)<(r:Int)) then true else bif decide ((((q*v.getD (v.length-2) 0 / B64):Nat):Int)=(r:Int)) then decide ((((q*v.getD (v.length-2) 0%B64):Nat):Int)<=((w.getD (v.length-2) 0:Nat):Int)) else false)=true) :
  val B64 w / val B64 v<=q/\q<=val B64 w / val B64 v+1/\q<B64:=by
 obtain⟨hW,hV,hw0,hv0⟩:=tops hw hv hwl hn
 have p0:0<B64:=ah
 have hy2:=hv.get p0 (v.length-2)
 have:c=0:=aa
 subst this
 rw[KU,KD] at h
 refine guess_end qM hW hV hy2 hv0 aa h (.inr ?_)
 grind
theorem st_stopC (hw:Dg B64 w) (hv:Dg B64 v) (hwl:w.length=v.length+1) (hn:2<=v.length) (hnm:B64<=2*v.getD (v.length-1) 0) (hlt:val B64 w<B64*val B64 v)
  (h:GI B64 (v.getD (v.length-1) 0) (w.getD v.length 0*B64+w.getD (v.length-1) 0) (val B64 w / val B64 v) q (r+c*B64)) (_:r<B64/\c<=1) (hc:¬(c:Int)=0) :
  val B64 w / val B64 v<=q/\q<=val B64 w / val B64 v+1/\q<B64:=by
 obtain⟨hW,hV,hw0,hv0⟩:=tops hw hv hwl hn
 have hy2:=hv.get (show 0<B64 by decide) (v.length-2)
 refine guess_end qM hW hV hy2 hv0 aa h (.inl ?_)
 grind
theorem st_ms (h:MsI B64 w v q i x c b) (hi:i<v.length) (hwl:w.length=v.length+1) (hv:Dg B64 v) (hw:Dg B64 w) (hq:q<B64)
  (hm:(q*v.getD i 0%B64+c)%B64=(q*v.getD i 0+c)%B64/\q*v.getD i 0 / B64+(q*v.getD i 0%B64+c) / B64=(q*v.getD i 0+c) / B64/\(q*v.getD i 0+c) / B64<B64) :
  MsI B64 w v q (i+1) (x.set i ((x.getD i 0+B64-(q*v.getD i 0%B64+c)%B64-b)%B64)) (q*v.getD i 0 / B64+(q*v.getD i 0%B64+c) / B64) (if x.getD i 0<(q*v.getD i 0%B64+c)%B64+b then 1 else 0):=by
 have hn:=ms_next qM h aa hv hw hq
 rw[hm.1,hm.2.1,drop_getD h.2.2.2.2.2 (zB i)]
 exact hn
theorem st_last (h:MsI B64 w v q i x c b) (hi:¬(i:Int)<(v.length:Int)) (hi2:i<=v.length) (hw:Dg B64 w) (hwl:w.length=v.length+1) :
  Dg B64 (x.set v.length ((x.getD v.length 0+B64-c-b)%B64))/\(x.set v.length ((x.getD v.length 0+B64-c-b)%B64)).length=v.length+1/\val B64 (x.set v.length ((x.getD v.length 0+B64-c-b)%B64))+q*val B64 v=val B64 w+(if x.getD v.length 0<c+b then 1 else 0)*B64 ^ (v.length+1):=by
 rw[drop_getD h.2.2.2.2.2 hi2]
 exact ms_last qM h aa hi2 hw hwl rfl
theorem st_pos (hm:Dg B64 y/\y.length=v.length+1/\val B64 y+q*val B64 v=val B64 w+s*B64 ^ (v.length+1)) (hlt:val B64 w<B64*val B64 v):0<val B64 v:=by grind
theorem st_fit (hm:Dg B64 y/\y.length=v.length+1/\val B64 y+q*val B64 v=val B64 w+s*B64 ^ (v.length+1)) (hlt:val B64 w<B64*val B64 v) (hq:val B64 w / val B64 v<=q) (hs:(s:Int)=0) :
  q=val B64 w / val B64 v/\y=fixd B64 (v.length+1) (val B64 w%val B64 v):=by
 have:s=0:=aa
 subst this
 obtain⟨a,b⟩:=step_fit (β:=0) (st_pos hm hlt) hq hm.2.2
 exact⟨a,fixd_eq qM hm.1 hm.2.1 b⟩
theorem st_over (hm:Dg B64 y/\y.length=v.length+1/\val B64 y+q*val B64 v=val B64 w+s*B64 ^ (v.length+1)) (hlt:val B64 w<B64*val B64 v) (hq:val B64 w / val B64 v<=q/\q<=val B64 w / val B64 v+1/\q<B64) (hs1:s<=1) (hs:¬(s:Int)=0) :
  q-1=val B64 w / val B64 v/\1<=q/\val B64 y+val B64 v=val B64 w%val B64 v+B64 ^ (v.length+1):=by
 have:s=1:=aa
 subst this
 have hX:=jR hm.1
 rw[hm.2.1] at hX
 exact step_over (st_pos hm hlt) hq.1 hq.2.1 hX hm.2.2
theorem st_bk (h:BkI B64 y v i z c) (hi:i<v.length) (hyl:y.length=v.length+1) (hv:Dg B64 v) (hy:Dg B64 y) :
  BkI B64 y v (i+1) (z.set i ((z.getD i 0+v.getD i 0+c)%B64)) ((z.getD i 0+v.getD i 0+c) / B64):=by
 rw[drop_getD h.2.2.2.2 (zB i)]
 exact bk_next qM h aa hv hy
theorem st_fix (hm:Dg B64 y/\y.length=v.length+1/\val B64 y+q*val B64 v=val B64 w+s*B64 ^ (v.length+1)) (ho:q-1=val B64 w / val B64 v/\1<=q/\val B64 y+val B64 v=val B64 w%val B64 v+B64 ^ (v.length+1)) (hlt:val B64 w<B64*val B64 v) (h:BkI B64 y v i z c) (hi:¬(i:Int)<(v.length:Int)) (hi2:i<=v.length) (hv:Dg B64 v) :
  q-1=val B64 w / val B64 v/\z.set v.length ((z.getD v.length 0+c)%B64)=fixd B64 (v.length+1) (val B64 w%val B64 v):=by
 rw[drop_getD h.2.2.2.2 hi2]
 obtain⟨a,b,e⟩:=bk_last qM h aa hi2 hm.1 hm.2.1 Z ho.2.2 (KK (Wu _ (st_pos hm hlt)) (jR hv))
 exact⟨ho.1,fixd_eq qM a b e⟩
end
theorem w295 (p w t v:List Nat) (hw:Dg B64 w) (hv:Dg B64 v) (hwl:w.length=v.length+1) (hn:2<=v.length) (hvl:v.length<=1000000) (hnm:B64<=2*(v.getD (v.length-1) 0)) (hlt:(val B64 w)<B64*(val B64 v)):qA prog 244 [.awin 3012 0 (p.length) (v.length+1),vL eU v] (qr ([(3012,.arr 0 1 237 (List.map eU (inW p w t)))])) (vU ((val B64 w) / (val B64 v))) ([(3012,.arr 0 1 237 (List.map eU (inW p (fixd B64 (v.length+1) ((val B64 w)%(val B64 v))) t)))]):=by
 refine cL 3013 ([(3012,.arr 0 1 237 (List.map eU (inW p w t)))]) qf244 Z (nB Z) Z Z (kc ?_)
 have hx0:=hw.get (show 0<B64 by decide) (v.length)
 have hx1:=hw.get (show 0<B64 by decide) (v.length-1)
 have hx2:=hw.get (show 0<B64 by decide) (v.length-2)
 have hy1:=hv.get (show 0<B64 by decide) (v.length-1)
 have hy2:=hv.get (show 0<B64 by decide) (v.length-2)
 refine E Z (B.ju Z jg) (E Z (B.idxW Z Z Z jg qN Z aa Z) (E Z (B.loadW (z0:=0) Z Z Qd qN aa Z) (E Z (B.sub Z Z bg) (E Z (B.idx (z:=0) (i:=(v.length-1)) Z Z jg qN (fun _=>rfl) aa aa) (Dr Z ae (Cj [(0,.awin 3012 0 (p.length) (v.length+1)),(1,vL eU v),(5,vI (v.length:Int)),(6,WM (((gq (w.getD (v.length) 0) (w.getD (v.length-1) 0) (v.getD (v.length-1) 0)):Nat):Int)),(7,WM (((gr (w.getD (v.length) 0) (w.getD (v.length-1) 0) (v.getD (v.length-1) 0)):Nat):Int)),(8,WM (((gc (w.getD (v.length) 0) (w.getD (v.length-1) 0) (v.getD (v.length-1) 0)):Nat):Int))] [(3012,.arr 0 1 237 (List.map eU (inW p w t)))] Z Z Z (fun h1=>?_) (fun h1=>?_) ?_))))))
 ·replace h1:=X6 h1
  refine E Z (B.sub Z Z bg) (E Z (B.idxW (n:=(v.length-1)) Z Z Z jg qN aa aa Z) (E Z (B.loadW (z0:=0) Z Z Qd qN aa Z) (E Z (B.sub Z Z bg) (E Z (B.idx (z:=0) (i:=(v.length-1)) Z Z jg qN (fun _=>rfl) aa aa) (C Z (w288z (w.getD (v.length-1) 0) (v.getD (v.length-1) 0)) Z Z Z (Dr Z ae (pk Z ?_)))))))
  show Sub _ _ _
  first|(rw[gq_t h1,gr_t h1,gc_t h1];exact sb rfl rfl rfl)|(rw[gq_f h1,gr_f h1,gc_f h1];exact sb Z Z Z)
 ·replace h1:=XM h1
  refine E Z (B.idxW Z Z Z jg qN Z aa Z) (E Z (B.loadW (z0:=0) Z Z Qd qN aa Z) (E Z (B.sub Z Z bg) (E Z (B.idxW (n:=(v.length-1)) Z Z Z jg qN aa aa Z) (E Z (B.loadW (z0:=0) Z Z Qd qN aa Z) (E Z (B.sub Z Z bg) (E Z (B.idx (z:=0) (i:=(v.length-1)) Z Z jg qN (fun _=>rfl) aa aa) (C Z (w292 (w.getD (v.length) 0) (w.getD (v.length-1) 0) (v.getD (v.length-1) 0) aa aa aa) Z Z Z (Dr Z ae (pk Z ?_)))))))))
  show Sub _ _ _
  first|(rw[gq_t h1,gr_t h1,gc_t h1];exact sb rfl rfl rfl)|(rw[gq_f h1,gr_f h1,gc_f h1];exact sb Z Z Z)
 refine l3 (fun (q:Nat) (r:Nat) (c:Nat)=>[(0,.awin 3012 0 (p.length) (v.length+1)),(1,vL eU v),(5,vI (v.length:Int)),(6,WM (q:Int)),(7,WM (r:Int)),(8,WM (c:Int))]) (fun _ _ _=>[(3012,.arr 0 1 237 (List.map eU (inW p w t)))]) (fun q r c=>GI B64 (v.getD (v.length-1) 0) ((w.getD (v.length) 0)*B64+(w.getD (v.length-1) 0)) ((val B64 w) / (val B64 v)) q (r+c*B64)/\r<B64/\c<=1) (fun q _ _=>q) (gq (w.getD (v.length) 0) (w.getD (v.length-1) 0) (v.getD (v.length-1) 0)) (gr (w.getD (v.length) 0) (w.getD (v.length-1) 0) (v.getD (v.length-1) 0)) (gc (w.getD (v.length) 0) (w.getD (v.length-1) 0) (v.getD (v.length-1) 0)) Z ?_ (sb Z Z Z) ?_
 · exact st_init hw hv hwl hn hnm hlt
 intro q r c hI0
 refine Cp Z Z (fun h2=>?_) (fun h2=>?_)
 ·have hqb:=hI0.1.2.2
  refine E Z (B.sub Z Z bg) (E Z (B.idx (z:=0) (i:=(v.length-2)) Z Z jg qN (fun _=>rfl) aa aa) (C Z (w253 q (v.getD (v.length-2) 0) aa aa) Z Z Z ?_))
  refine Em Z Z Z Z ?_
  refine Em Z Z Z Z ?_
  refine Eg Z Z (fun hc=>B.eql (qu Z hc) (qu Z hc)) Z (Eg Z Z (fun hc=>B.move (qu Z hc)) Z ?_)
  refine Em Z Z Z Z ?_
  refine Eg Z Z (fun hc=>B.run Z) Z ?_
  refine Em Z Z Z Z ?_
  refine Eg Z Z (fun hc=>B.sub (qu Z hc) Z bg) Z (Eg Z Z (fun hc=>B.idxW (n:=(v.length-2)) (qu Z hc) Z (qu Z hc) jg qN aa aa Z) Z (Eg Z Z (fun hc=>B.loadW (z0:=0) (qu Z hc) Z Qd qN aa Z) Z (Eg Z Z (fun hc=>B.leq (qu Z hc) (qu Z hc)) Z (Eg Z Z (fun hc=>B.pick (qu Z hc) Z Z (gdB Z) Z (pick_and2 hc)) Z (E Z (B.pO Z Z Z Z Z) (Cb Z Z (fun h3=>?_) (fun h3=>?_)))))))
  ·have hQ:=by first|exact st_stopT hw hv hwl hn hnm hlt hI0.1 ab ab|exact st_stopC hw hv hwl hn hnm hlt hI0.1 hI0.2 ab
   have hqb:=hQ.2.2
   refine l4 (fun (i:Nat) (b:Nat) (c:Nat) (x:List Nat)=>[(0,.awin 3012 0 (p.length) (v.length+1)),(1,vL eU v),(5,vI (v.length:Int)),(6,WM (q:Int)),(11,WM (b:Int)),(12,WM (c:Int)),(104,vI (v.length:Int)),(105,vI (i:Int))]) (fun _ _ _ x=>[(3012,.arr 0 1 237 (List.map eU (inW p x t)))]) (fun i b c x=>i<=v.length/\MsI B64 w v q i x c b) (fun i _ _ _=>v.length-i) 0 0 0 w Z ?_ (sb Z Z Z) ?_
   · exact⟨zt _,ms_init qM hw⟩
   intro i b c x hI1
   refine Cp Z Z (fun h4=>?_) (fun h4=>?_)
   ·have hvi:=hv.get (show 0<B64 by decide) i
    have hcb:=hI1.2.2.2.1
    have hmac:=mac2 hqb hvi hcb
    have hbb:=hI1.2.2.2.2.1
    have hxl:x.length=v.length+1:=hI1.2.1.trans hwl
    refine E Z (B.idx (z:=0) Z Z jg qN (fun _=>rfl) Z aa) (C Z (w253 q (v.getD i 0) aa aa) Z Z Z (C Z (w288z (q*(v.getD i 0)%B64) c) Z Z Z (E Z (B.addN Z Z bt) (E Z (B.idxW Z Z Z jg qN Z aa Z) (E Z (B.loadW (z0:=0) Z Z Qd qN aa Z) (C Z (w290 (x.getD i 0) (((q*(v.getD i 0)%B64)+c)%B64) b aa) Z Z Z (E Z (B.idxW Z Z Z jg qN Z aa Z) (E Z (B.setW (z0:=(((x.getD i 0)+B64-(((q*(v.getD i 0)%B64)+c)%B64)-b)%B64)) Z Z Z Z Z qN aa (fun _=>rfl)) (E Z (B.add Z Z bg) (pk Z (L4 (i+1) (if (x.getD i 0)<(((q*(v.getD i 0)%B64)+c)%B64)+b then 1 else 0) ((q*(v.getD i 0) / B64)+(((q*(v.getD i 0)%B64)+c) / B64)) (List.set x i (((x.getD i 0)+B64-(((q*(v.getD i 0)%B64)+c)%B64)-b)%B64)) ?_ ?_ (sb Z Z Z))))))))))))
    · exact⟨aa,st_ms hI1.2 aa hwl hv hw hqb hmac⟩
    · omega
   have hbb:=hI1.2.2.2.2.1
   have hcb:=hI1.2.2.2.1
   have hxl:x.length=v.length+1:=hI1.2.1.trans hwl
   refine E Z (B.idxW Z Z Z jg qN Z aa Z) (E Z (B.loadW (z0:=0) Z Z Qd qN aa Z) (C Z (w290 (x.getD (v.length) 0) c b aa) Z Z Z (E Z (B.idxW Z Z Z jg qN Z aa Z) (E Z (B.setW (z0:=(((x.getD (v.length) 0)+B64-c-b)%B64)) Z Z Z Z Z qN aa (fun _=>rfl)) ?_))))
   refine tk 24 Z ?_
   refine tn ⟨[(0,.awin 3012 0 (p.length) (v.length+1)),(1,vL eU v),(5,vI (v.length:Int)),(6,WM (q:Int)),(11,WM (((if (x.getD (v.length) 0)<c+b then 1 else 0):Nat):Int))],[(3012,.arr 0 1 237 (List.map eU (inW p (List.set x (v.length) (((x.getD (v.length) 0)+B64-c-b)%B64)) t)))]⟩ rfl rfl Z ?_
   have hml:=st_last hI1.2 ab hI1.1 hw hwl
   obtain⟨y,ey⟩:∃ z,(List.set x (v.length) (((x.getD (v.length) 0)+B64-c-b)%B64))=z:=⟨_,rfl⟩
   obtain⟨s,es⟩:∃ z,(if (x.getD (v.length) 0)<c+b then 1 else 0)=z:=⟨_,rfl⟩
   have hs1:s<=1:=es▸ite01
   rw[ey,es] at hml
   rw[ey,es]
   have hyl:=hml.2.1
   refine kc (Cp Z Z (fun h5=>?_) (fun h5=>?_))
   ·have hE:=st_fit hml hlt hQ.1 ab
    exact Rt Z (ZG (val0:=WM (q:Int)) (out0:=[(3012,.arr 0 1 237 (List.map eU (inW p y t)))]) (.inr Z) ae (by rw[hE.1]) (by rw[hE.2]))
   have ho:=st_over hml hlt hQ hs1 ab
   refine l3 (fun (i:Nat) (c:Nat) (z:List Nat)=>[(0,.awin 3012 0 (p.length) (v.length+1)),(1,vL eU v),(5,vI (v.length:Int)),(6,WM (q:Int)),(17,WM (c:Int)),(156,vI (v.length:Int)),(157,vI (i:Int))]) (fun _ _ z=>[(3012,.arr 0 1 237 (List.map eU (inW p z t)))]) (fun i c z=>i<=v.length/\BkI B64 y v i z c) (fun i _ _=>v.length-i) 0 0 y Z ?_ (sb Z Z Z) ?_
   · exact⟨zt _,bk_init hml.1⟩
   intro i c z hI2
   refine Cp Z Z (fun h6=>?_) (fun h6=>?_)
   ·have hzl:z.length=v.length+1:=hI2.2.1.trans hyl
    have hcz:=hI2.2.2.2.1
    refine E Z (B.idxW Z Z Z jg qN Z aa Z) (E Z (B.loadW (z0:=0) Z Z Qd qN aa Z) (E Z (B.idx (z:=0) Z Z jg qN (fun _=>rfl) Z aa) (C Z (w288 (z.getD i 0) (v.getD i 0) c aa) Z Z Z (E Z (B.idxW Z Z Z jg qN Z aa Z) (E Z (B.setW (z0:=(((z.getD i 0)+(v.getD i 0)+c)%B64)) Z Z Z Z Z qN aa (fun _=>rfl)) (Dr Z ae (E Z (B.add Z Z bg) (pk Z (L3 (i+1) (((z.getD i 0)+(v.getD i 0)+c) / B64) (List.set z i (((z.getD i 0)+(v.getD i 0)+c)%B64)) ?_ ?_ (sb Z Z Z))))))))))
    · exact⟨aa,st_bk hI2.2 aa hyl hv hml.1⟩
    · omega
   have hzl:z.length=v.length+1:=hI2.2.1.trans hyl
   refine E Z (B.idxW Z Z Z jg qN Z aa Z) (E Z (B.loadW (z0:=0) Z Z Qd qN aa Z) (E Z (B.addM Z Z) (E Z (B.idxW Z Z Z jg qN Z aa Z) (E Z (B.setW (z0:=(((z.getD (v.length) 0)+c)%B64)) Z Z Z Z Z qN aa (fun _=>rfl)) ?_))))
   have hE:=st_fix hml ho hlt hI2.2 ab hI2.1 hv
   exact E Z (B.subN Z Z ho.2.1 aa) (Rt Z (ZG (val0:=WM (((q-1):Nat):Int)) (out0:=[(3012,.arr 0 1 237 (List.map eU (inW p (List.set z (v.length) (((z.getD (v.length) 0)+c)%B64)) t)))]) (.inr Z) ae (by rw[hE.1]) (by rw[hE.2])))
  have hls:=st_less hw hv hwl hn hnm hlt hI0.1 ab hI0.2.1 ab
  refine E Z (B.subN Z Z hls.1 aa) (E Z (B.sub Z Z bg) (E Z (B.idx (z:=0) (i:=(v.length-1)) Z Z jg qN (fun _=>rfl) aa aa) (C Z (w288z r (v.getD (v.length-1) 0)) Z Z Z (pk Z (L3 (q-1) ((r+(v.getD (v.length-1) 0))%B64) ((r+(v.getD (v.length-1) 0)) / B64) ?_ ?_ (sb Z Z Z))))))
  · exact⟨hls.2.1,Wu _ ah,hls.2.2⟩
  · (have:=hls.1;omega)
 have hQ:=by first|exact st_stopT hw hv hwl hn hnm hlt hI0.1 ab ab|exact st_stopC hw hv hwl hn hnm hlt hI0.1 hI0.2 ab
 have hqb:=hQ.2.2
 refine l4 (fun (i:Nat) (b:Nat) (c:Nat) (x:List Nat)=>[(0,.awin 3012 0 (p.length) (v.length+1)),(1,vL eU v),(5,vI (v.length:Int)),(6,WM (q:Int)),(11,WM (b:Int)),(12,WM (c:Int)),(104,vI (v.length:Int)),(105,vI (i:Int))]) (fun _ _ _ x=>[(3012,.arr 0 1 237 (List.map eU (inW p x t)))]) (fun i b c x=>i<=v.length/\MsI B64 w v q i x c b) (fun i _ _ _=>v.length-i) 0 0 0 w Z ?_ (sb Z Z Z) ?_
 · exact⟨zt _,ms_init qM hw⟩
 intro i b c x hI1
 refine Cp Z Z (fun h7=>?_) (fun h7=>?_)
 ·have hvi:=hv.get (show 0<B64 by decide) i
  have hcb:=hI1.2.2.2.1
  have hmac:=mac2 hqb hvi hcb
  have hbb:=hI1.2.2.2.2.1
  have hxl:x.length=v.length+1:=hI1.2.1.trans hwl
  refine E Z (B.idx (z:=0) Z Z jg qN (fun _=>rfl) Z aa) (C Z (w253 q (v.getD i 0) aa aa) Z Z Z (C Z (w288z (q*(v.getD i 0)%B64) c) Z Z Z (E Z (B.addN Z Z bt) (E Z (B.idxW Z Z Z jg qN Z aa Z) (E Z (B.loadW (z0:=0) Z Z Qd qN aa Z) (C Z (w290 (x.getD i 0) (((q*(v.getD i 0)%B64)+c)%B64) b aa) Z Z Z (E Z (B.idxW Z Z Z jg qN Z aa Z) (E Z (B.setW (z0:=(((x.getD i 0)+B64-(((q*(v.getD i 0)%B64)+c)%B64)-b)%B64)) Z Z Z Z Z qN aa (fun _=>rfl)) (E Z (B.add Z Z bg) (pk Z (L4 (i+1) (if (x.getD i 0)<(((q*(v.getD i 0)%B64)+c)%B64)+b then 1 else 0) ((q*(v.getD i 0) / B64)+(((q*(v.getD i 0)%B64)+c) / B64)) (List.set x i (((x.getD i 0)+B64-(((q*(v.getD i 0)%B64)+c)%B64)-b)%B64)) ?_ ?_ (sb Z Z Z))))))))))))
  · exact⟨aa,st_ms hI1.2 aa hwl hv hw hqb hmac⟩
  · omega
 have hbb:=hI1.2.2.2.2.1
 have hcb:=hI1.2.2.2.1
 have hxl:x.length=v.length+1:=hI1.2.1.trans hwl
 refine E Z (B.idxW Z Z Z jg qN Z aa Z) (E Z (B.loadW (z0:=0) Z Z Qd qN aa Z) (C Z (w290 (x.getD (v.length) 0) c b aa) Z Z Z (E Z (B.idxW Z Z Z jg qN Z aa Z) (E Z (B.setW (z0:=(((x.getD (v.length) 0)+B64-c-b)%B64)) Z Z Z Z Z qN aa (fun _=>rfl)) ?_))))
 refine tk 24 Z ?_
 refine tn ⟨[(0,.awin 3012 0 (p.length) (v.length+1)),(1,vL eU v),(5,vI (v.length:Int)),(6,WM (q:Int)),(11,WM (((if (x.getD (v.length) 0)<c+b then 1 else 0):Nat):Int))],[(3012,.arr 0 1 237 (List.map eU (inW p (List.set x (v.length) (((x.getD (v.length) 0)+B64-c-b)%B64)) t)))]⟩ rfl rfl Z ?_
 have hml:=st_last hI1.2 ab hI1.1 hw hwl
 obtain⟨y,ey⟩:∃ z,(List.set x (v.length) (((x.getD (v.length) 0)+B64-c-b)%B64))=z:=⟨_,rfl⟩
 obtain⟨s,es⟩:∃ z,(if (x.getD (v.length) 0)<c+b then 1 else 0)=z:=⟨_,rfl⟩
 have hs1:s<=1:=es▸ite01
 rw[ey,es] at hml
 rw[ey,es]
 have hyl:=hml.2.1
 refine kc (Cp Z Z (fun h8=>?_) (fun h8=>?_))
 ·have hE:=st_fit hml hlt hQ.1 ab
  exact Rt Z (ZG (val0:=WM (q:Int)) (out0:=[(3012,.arr 0 1 237 (List.map eU (inW p y t)))]) (.inr Z) ae (by rw[hE.1]) (by rw[hE.2]))
 have ho:=st_over hml hlt hQ hs1 ab
 refine l3 (fun (i:Nat) (c:Nat) (z:List Nat)=>[(0,.awin 3012 0 (p.length) (v.length+1)),(1,vL eU v),(5,vI (v.length:Int)),(6,WM (q:Int)),(17,WM (c:Int)),(156,vI (v.length:Int)),(157,vI (i:Int))]) (fun _ _ z=>[(3012,.arr 0 1 237 (List.map eU (inW p z t)))]) (fun i c z=>i<=v.length/\BkI B64 y v i z c) (fun i _ _=>v.length-i) 0 0 y Z ?_ (sb Z Z Z) ?_
 · exact⟨zt _,bk_init hml.1⟩
 intro i c z hI2
 refine Cp Z Z (fun h9=>?_) (fun h9=>?_)
 ·have hzl:z.length=v.length+1:=hI2.2.1.trans hyl
  have hcz:=hI2.2.2.2.1
  refine E Z (B.idxW Z Z Z jg qN Z aa Z) (E Z (B.loadW (z0:=0) Z Z Qd qN aa Z) (E Z (B.idx (z:=0) Z Z jg qN (fun _=>rfl) Z aa) (C Z (w288 (z.getD i 0) (v.getD i 0) c aa) Z Z Z (E Z (B.idxW Z Z Z jg qN Z aa Z) (E Z (B.setW (z0:=(((z.getD i 0)+(v.getD i 0)+c)%B64)) Z Z Z Z Z qN aa (fun _=>rfl)) (Dr Z ae (E Z (B.add Z Z bg) (pk Z (L3 (i+1) (((z.getD i 0)+(v.getD i 0)+c) / B64) (List.set z i (((z.getD i 0)+(v.getD i 0)+c)%B64)) ?_ ?_ (sb Z Z Z))))))))))
  · exact⟨aa,st_bk hI2.2 aa hyl hv hml.1⟩
  · omega
 have hzl:z.length=v.length+1:=hI2.2.1.trans hyl
 refine E Z (B.idxW Z Z Z jg qN Z aa Z) (E Z (B.loadW (z0:=0) Z Z Qd qN aa Z) (E Z (B.addM Z Z) (E Z (B.idxW Z Z Z jg qN Z aa Z) (E Z (B.setW (z0:=(((z.getD (v.length) 0)+c)%B64)) Z Z Z Z Z qN aa (fun _=>rfl)) ?_))))
 have hE:=st_fix hml ho hlt hI2.2 ab hI2.1 hv
 exact E Z (B.subN Z Z ho.2.1 aa) (Rt Z (ZG (val0:=WM (((q-1):Nat):Int)) (out0:=[(3012,.arr 0 1 237 (List.map eU (inW p (List.set z (v.length) (((z.getD (v.length) 0)+c)%B64)) t)))]) (.inr Z) ae (by rw[hE.1]) (by rw[hE.2])))
theorem dv_one {B:Nat} (hB:0<B) (h:(((dig B64 B).length:Nat):Int)=1):B<B64/\(dig B64 B).getD 0 0=B:=by
 have hl:(dig B64 B).length=1:=aa
 have a:=jB qM B
 rw[hl,Nat.pow_one] at a
 exact⟨a,by rw[j7 qM aa a];rfl⟩
theorem cmp_ge {A B:Nat} (h:¬cmpN A B<0):B<=A:=by grind [cmpN]
theorem dv_l1 {A B:Nat} (h:cmpN A B<0):([]:List Nat)=dig B64 (A / B):=by
 have:A<B:=by grind [cmpN]
 rw[Ji this,jL]
theorem dv_l2 {A B:Nat} (h:cmpN A B<0):dig B64 A=dig B64 (A%B):=by
 have:A<B:=by grind [cmpN]
 rw[Jm this]
theorem dv_bl {B:Nat} (hB:0<B):1<=(dig B64 B).length:=by
 rcases XG (dig B64 B).length with e|e
 ·have:=dig_nil qM (QS.1 e);omega
 exact e
theorem dv_len {A B:Nat} (h:B<=A):(dig B64 B).length<=(dig B64 A).length:=by
 rcases KJ (dig B64 A).length (dig B64 B).length with g|g
 ·have:=ZN qM g;omega
 exact g
theorem dv_i0 {A B:Nat} (hB:0<B) (hd:(dig B64 B).getD 0 0=B): -1<=(((dig B64 A).length:Nat):Int)-1/\(((dig B64 A).length:Nat):Int)-1<(dig B64 A).length/\DivI B64 (dig B64 A) ((dig B64 B).getD 0 0) (toNat ((((dig B64 A).length:Nat):Int)-1+1)) (replicate (dig B64 A).length 0) 0:=by
 rw[hd]
 refine⟨aa,aa,?_⟩
 rw[show toNat ((((dig B64 A).length:Nat):Int)-1+1)=(dig B64 A).length by omega]
 exact div_init qM hB
section
variable {A B r d K M k s:Nat} {i:Int} {q u v w:List Nat}
theorem dv_n0 (h: -1<=i/\i<(dig B64 A).length/\DivI B64 (dig B64 A) ((dig B64 B).getD 0 0) (toNat (i+1)) q r) (h0:0<=i) (hB:B<B64) (hd:(dig B64 B).getD 0 0=B) :
  -1<=i-1/\i-1<(dig B64 A).length/\DivI B64 (dig B64 A) ((dig B64 B).getD 0 0) (toNat (i-1+1)) (q.set (toNat i) ((r*B64+(dig B64 A).getD (toNat i) 0) / (dig B64 B).getD 0 0)) ((r*B64+(dig B64 A).getD (toNat i) 0)%(dig B64 B).getD 0 0):=by
 refine⟨aa,aa,?_⟩
 have h2:=h.2.2
 rw[show toNat (i+1)=toNat i+1 by omega] at h2
 rw[show i-1+1=i by omega]
 exact div_next qM h2 aa (jc qM A) (by rw[hd];exact hB)
theorem dv_e0 (h: -1<=i/\i<(dig B64 A).length/\DivI B64 (dig B64 A) ((dig B64 B).getD 0 0) (toNat (i+1)) q r) (h0:¬0<=i) (hd:(dig B64 B).getD 0 0=B):dig B64 (val B64 q)=dig B64 (A / B)/\dig B64 (val B64 [r])=dig B64 (A%B):=by
 have h2:=h.2.2
 rw[show toNat (i+1)=0 by omega] at h2
 obtain⟨a,b⟩:=div_end h2
 rw[a,val_one,b,qO qM,hd]
 exact⟨rfl,rfl⟩
end
theorem nrm {β K B t n:Nat} (hβ:2<=β) (hn:(dig β B).length=n+1) (ht:(dig β B).getD n 0=t) (hK:0<K) (h1:(t+1)*K<=β) (h2:β<=2*(t*K)) :
  (dig β (B*K)).length=n+1/\β<=2*(dig β (B*K)).getD n 0/\B*K<β ^ (n+1):=by
 have hv:=qO hβ B
 rw[kh hn,ht] at hv
 have hl:=jR ((jc hβ B).take n)
 rw[zn,JK aa] at hl
 have hp:0<β ^ n:=Wj aa
 have e1:B*K<β ^ (n+1):=by
  have a:B<β ^ n*(t+1):=by rw[Wd];omega
  have b:=(Xi hK).2 a
  have c:=Xw (β ^ n) h1
  grind
 have e2:β ^ n*(t*K)<=B*K:=by
  have:=Xh K (show β ^ n*t<=B by omega)
  grind
 have e3:(dig β (B*K)).length<=n+1:=je hβ e1
 have htK:0<t*K:=aa
 have e4:n<(dig β (B*K)).length:=by
  rcases KJ n (dig β (B*K)).length with g|g
  ·exact g
  exfalso
  have a:=jB hβ (B*K)
  have b:=Xj (show 0<β by omega) g
  have c:=Xw (β ^ n) htK
  omega
 have e5:(dig β (B*K)).length=n+1:=aa
 refine⟨e5,?_,e1⟩
 have hw:=qO hβ (B*K)
 rw[kh e5] at hw
 have hwl:=jR ((jc hβ (B*K)).take n)
 rw[zn,JK aa] at hwl
 generalize (dig β (B*K)).getD n 0=x at*
 have:t*K<x+1:=by
  refine QJ (a:=β ^ n) ?_
  rw[Wd];omega
 omega
theorem dv_norm {B s K M:Nat} (hB:0<B) (hbl:1<=(dig B64 B).length) (es:64-q9 ((dig B64 B).getD ((dig B64 B).length-1) 0)=s) (hK:2 ^ s=K) (hM:2 ^ (64-s)=M) :
  s<=63/\K*M=B64/\0<K/\∃ v,Dg B64 v/\v.length=(dig B64 B).length/\val B64 v=B*K/\v=dig B64 (B*K)/\B64<=2*v.getD (v.length-1) 0/\dig B64 (val B64 (fixd B64 ((dig B64 B).length+1) (val B64 (dig B64 B)*K)))=v:=by
 have hnz:=nz_dig qM B
 have ht0:(dig B64 B).getD ((dig B64 B).length-1) 0≠0:=by
  refine hnz _ ?_
  grind
 have htl:=(jc qM B).get (show 0<B64 by decide) ((dig B64 B).length-1)
 obtain⟨n,hn⟩:∃ n,(dig B64 B).length=n+1:=⟨(dig B64 B).length-1,aa⟩
 rw[hn,XF] at es ht0 htl
 rw[hn] at hbl ⊢
 obtain⟨t,ht⟩:∃ t,(dig B64 B).getD n 0=t:=⟨_,rfl⟩
 rw[ht] at es ht0 htl
 have b1:=blen_64 htl
 have b2:=kw t
 have b3:=blen_le ht0
 have b0:q9 t≠0:=by intro e;rw[e] at b2;omega
 have hKp:0<K:=by grind
 have f1:(t+1)*K<=B64:=by
  have:=Xh K (show t+1<=2 ^ q9 t from b2)
  rw[<-hK,<-Nat.pow_add,<-es,show q9 t+(64-q9 t)=64 by omega,es,hK] at this
  exact this
 have f2:B64<=2*(t*K):=by
  have:=Xh K b3
  rw[<-hK,<-Nat.pow_add,<-es,show q9 t-1+(64-q9 t)=63 by omega,es,hK] at this
  have e:B64=2*2 ^ 63:=ah
  omega
 obtain⟨g1,g2,g3⟩:=nrm qM hn ht hKp f1 f2
 refine⟨aa,?_,hKp,dig B64 (B*K),jc qM _,g1,qO qM _,rfl,?_,?_⟩
 ·rw[<-hK,<-hM,<-Nat.pow_add,show s+(64-s)=64 by omega]
 ·rw[g1,XF];exact g2
 rw[qO qM,fixd_val qM]
 exact XJ g3 (Xj ah aa)
section
variable {A B r d K M k s:Nat} {i:Int} {q u v w:List Nat}
theorem dv_i1 (hB:0<B) (hK:0<K) (hAB:B<=A) (hvv:val B64 v=B*K) (hvn:v.length=(dig B64 B).length) (hbl:1<=(dig B64 B).length) (hKl:K<=B64) :
  -1<=(((dig B64 A).length:Nat):Int)-(v.length:Int)/\(((dig B64 A).length:Nat):Int)-(v.length:Int)<=((dig B64 A).length:Int)-(v.length:Int)/\LdI B64 (A*K) v (toNat ((((dig B64 A).length:Nat):Int)-(v.length:Int)+1)) (fixd B64 ((dig B64 A).length+1) (val B64 (dig B64 A)*K)) (replicate (toNat ((((dig B64 A).length:Nat):Int)-(v.length:Int)+1)) 0)/\(fixd B64 ((dig B64 A).length+1) (val B64 (dig B64 A)*K)).length=(dig B64 A).length+1/\(replicate (toNat ((((dig B64 A).length:Nat):Int)-(v.length:Int)+1)) (0:Nat)).length=toNat ((((dig B64 A).length:Nat):Int)-(v.length:Int)+1):=by
 have hml:=dv_len hAB
 have hA:=jB qM A
 have hfit:A*K<B64 ^ ((dig B64 A).length+1):=by
  rw[KN]
  exact XJ ((Xi hK).2 hA) (Xw _ hKl)
 have hval:val B64 (fixd B64 ((dig B64 A).length+1) (val B64 (dig B64 A)*K))=A*K:=by rw[qO qM,fixd_val qM hfit]
 refine⟨aa,K3 _,?_,fixd_len ..,by rw[qa]⟩
 have:=ld_init (β:=B64) (v:=v) (u:=fixd B64 ((dig B64 A).length+1) (val B64 (dig B64 A)*K)) (j:=toNat ((((dig B64 A).length:Nat):Int)-(v.length:Int)+1)) qM (fixd_dg qM _ _) ?_
 ·rw[hval] at this;exact this
 rw[hval,hvv]
 have hBl:B64 ^ ((dig B64 B).length-1)<=B:=by
  have:=nz_pos qM (nz_dig qM B) (by intro e;rw[e] at hbl;exact absurd hbl ah)
  rwa [qO qM] at this
 have h1:=Xh (B64 ^ (toNat ((((dig B64 A).length:Nat):Int)-(v.length:Int)+1))) hBl
 rw[<-Nat.pow_add,show (dig B64 B).length-1+toNat ((((dig B64 A).length:Nat):Int)-(v.length:Int)+1)=(dig B64 A).length by omega] at h1
 have h2:=(Xi hK).2 (XJ hA h1)
 grind
theorem dv_kl (hK:2 ^ s=K) (hs:s<=63):K<=B64:=by rw[<-hK];exact qd (Xj ah hs) ah
theorem dv_win (h:LdI B64 A v (toNat (i+1)) u q) (h0:0<=i) (hv:Dg B64 v) (hl:toNat i+v.length+1<=u.length) (hq:toNat i<q.length) (hV:0<val B64 v) :
  ∃ p w t,u=inW p w t/\p.length=toNat i/\w.length=v.length+1/\Dg B64 w/\val B64 w<B64*val B64 v/\LdI B64 A v (toNat i) (inW p (fixd B64 (v.length+1) (val B64 w%val B64 v)) t) (q.set (toNat i) (val B64 w / val B64 v))/\(inW p (fixd B64 (v.length+1) (val B64 w%val B64 v)) t).length=u.length:=by
 rw[show toNat (i+1)=toNat i+1 by omega] at h
 obtain⟨a,b,c⟩:=inW_mk (l:=u) (j:=toNat i) (c:=v.length+1) aa
 have hn:=ld_next (n:=v.length) qM h hv Z hl hq hV (X:=inW (u.take (toNat i)) (fixd B64 (v.length+1) (val B64 ((u.drop (toNat i)).take (v.length+1))%val B64 v)) (u.drop (toNat i+(v.length+1)))) (by unfold inW;rw[zZ];rfl)
 exact⟨_,_,_,a,b,c,(h.1.drop _).take _,(ld_win qM h hv Z hl).1,hn.1,hn.2⟩
theorem j0 (h:LdI B64 A v (toNat (i+1)) u q) (hi:toNat (i+1)=0):LdI B64 A v 0 u q:=hi▸h
theorem dv_s (hK:0<K) (hKM:K*M=B64) (h:k<=v.length/\ShrI B64 u K v.length k w) (hk:k<v.length) (hn:v.length<u.length) (hu:Dg B64 u) :
  ShrI B64 u K v.length (k+1) (w.set k (u.getD k 0 / K+u.getD (k+1) 0*M%B64))/\(w.set k (w.getD k 0 / K)).getD k 0<M/\(w.set k (w.getD k 0 / K)).getD (k+1) 0*M%B64=u.getD (k+1) 0%K*M/\(w.set k (w.getD k 0 / K)).getD k 0+(w.set k (w.getD k 0 / K)).getD (k+1) 0*M%B64<B64/\w.getD k 0=u.getD k 0/\(w.set k (w.getD k 0 / K)).getD k 0=u.getD k 0 / K/\(w.set k (w.getD k 0 / K)).getD (k+1) 0=u.getD (k+1) 0:=by
 obtain⟨a,b,c,e⟩:=shr_next qM hK hKM h.2 hk hn hu
 have g1:=shr_get h.2 (zB k)
 have g2:=shr_get h.2 (Wc k)
 have hl:=h.2.1
 grind
theorem dv_n2a (hs:ShrI B64 u K v.length (k+1) (w.set k (u.getD k 0 / K+u.getD (k+1) 0*M%B64))/\(w.set k (w.getD k 0 / K)).getD k 0<M/\(w.set k (w.getD k 0 / K)).getD (k+1) 0*M%B64=u.getD (k+1) 0%K*M/\(w.set k (w.getD k 0 / K)).getD k 0+(w.set k (w.getD k 0 / K)).getD (k+1) 0*M%B64<B64/\w.getD k 0=u.getD k 0/\(w.set k (w.getD k 0 / K)).getD k 0=u.getD k 0 / K/\(w.set k (w.getD k 0 / K)).getD (k+1) 0=u.getD (k+1) 0) (h:k<=v.length/\ShrI B64 u K v.length k w) (hk:k<v.length) :
  k+1<=v.length/\ShrI B64 u K v.length (k+1) ((w.set k (w.getD k 0 / K)).set k ((w.set k (w.getD k 0 / K)).getD k 0+(w.set k (w.getD k 0 / K)).getD (k+1) 0*M%B64)):=by
 grind [hs.2.2.2.2.2.1,hs.2.2.2.2.2.2,List.set_set]
theorem dv_n2b (hs:ShrI B64 u K v.length (k+1) (w.set k (u.getD k 0 / K+u.getD (k+1) 0*M%B64))/\(w.set k (w.getD k 0 / K)).getD k 0<M/\(w.set k (w.getD k 0 / K)).getD (k+1) 0*M%B64=u.getD (k+1) 0%K*M/\(w.set k (w.getD k 0 / K)).getD k 0+(w.set k (w.getD k 0 / K)).getD (k+1) 0*M%B64<B64/\w.getD k 0=u.getD k 0/\(w.set k (w.getD k 0 / K)).getD k 0=u.getD k 0 / K/\(w.set k (w.getD k 0 / K)).getD (k+1) 0=u.getD (k+1) 0) (h:k<=v.length/\ShrI B64 u K v.length k w) (hk:k<v.length) (hn:v.length<u.length) (hKM:K*M=B64) (hK:2 ^ s=K)
  (hc:(bif decide ((0:Int)<(s:Int)) then decide (((k:Nat):Int)+1<(((w.set k (w.getD k 0 / K)).length:Nat):Int)) else false)=false) :
  k+1<=v.length/\ShrI B64 u K v.length (k+1) (w.set k (w.getD k 0 / K)):=by
 grind
theorem dv_end (hB:0<B) (hK:0<K) (hKM:K*M=B64) (h:k<=v.length/\ShrI B64 u K v.length k w) (hk:¬(k:Int)<(v.length:Int)) (hvv:val B64 v=B*K) (hvd:Dg B64 v) (hl:LdI B64 (A*K) v (toNat (i+1)) u q) (hi:toNat (i+1)=0) (hn:v.length<u.length) :
  Dg B64 (w.take v.length)/\dig B64 (val B64 q)=dig B64 (A / B)/\dig B64 (val B64 (w.take v.length))=dig B64 (A%B):=by
 obtain⟨a,b⟩:=ld_end (j0 hl hi)
 rw[hvv,Nat.mul_div_mul_right _ _ hK] at a
 rw[hvv,Xb] at b
 have hz:∀ k,v.length<=k->u.getD k 0=0:=fun k hk=>by
  by_cases hkl:k<u.length
  ·have g:=val_ge (β:=B64) hkl
   rcases XG (u.getD k 0) with e|e
   ·exact e
   exfalso
   have g2:=Xw (B64 ^ k) e
   have g3:B64 ^ v.length<=B64 ^ k:=Xj ah hk
   have g4:=jR hvd
   have g5:val B64 u<val B64 v:=by rw[b,hvv];exact (Xi hK).2 (Wu _ hB)
   omega
  grind
 obtain⟨c,d⟩:=shr_end hK hKM h.2 aa b hz hn
 grind
end
theorem w294 (l:List Nat) (s K M:Nat) (ha:Dg B64 l) (hal:l.length<=1000000) (hs:s<=63) (hK:2 ^ s=K) (hM:2 ^ (64-s)=M):CKa 243 [vL eU l,vI (s:Int)] (vL eU (fixd B64 (l.length+1) (val B64 l*K))):=by
 refine cG qf243 Z (nB Z) Z ?_
 have hKM:K*M=B64:=by rw[<-hK,<-hM,<-Nat.pow_add,show s+(64-s)=64 by omega]
 have hK0:0<K:=by rw[<-hK];exact Wj ah
 refine E Z (B.nilS (enc:=eU) Z) (E Z (B.ju Z jg) (E Z (B.add Z Z bg) (E Z (B.makeSV (enc:=eU) (sz:=1) (z0:=0) (n:=(l.length+1)) (m:=(l.length+1)) Z Z aa aa jg in237 Z Z Z by237 bj Z Z) (E Z (B.ju Z jg) (l2 (fun (i:Nat) (out:List Nat)=>[(1,vI (s:Int)),(5,.aref 12 0),(12,vL eU l),(13,vI (l.length:Int)),(14,vI (i:Int))]) (fun _ out=>[(12,.arr 0 1 237 (List.map eU out))]) (fun i out=>i<=l.length/\ShlI B64 l K i out) (fun i _=>l.length-i) 0 (replicate (l.length+1) 0) Z ?_ (sb Z Z Z) ?_)))))
 · exact⟨zt _,shl_init qM hK0⟩
 intro i out hI0
 refine Cp Z Z (fun h1=>?_) (fun h1=>?_)
 ·refine E Z (B.idx (z:=0) Z Z jg qN (fun _=>rfl) Z bj) ?_
  have hxi:=ha.get (show 0<B64 by decide) i
  have hq:=shl_swap (shl_next qM hK0 hKM hI0.2 aa ha)
  have hq2:=hq.2.1
  have hq3:=hq.2.2
  have hok:=hI0.2.2.2.2.1
  have hol:=hI0.2.1
  refine E Z (B.idxE Z Z Z jg qN Z bj) (E Z (B.loadE (z0:=0) Z Z Qd qN bj Z) (E Z (B.shlJ Z Z Z aa hK) (E Z (B.orC s Z Z hK hok hq3 hq2) (E Z (B.idxE Z Z Z jg qN Z bj) (E Z (B.setE (z0:=((out.getD i 0)+((l.getD i 0)*K%B64))) Z Z Z Z Z qN bj (fun _=>rfl)) (Dr Z ae (Cp Z Z (fun h2=>?_) (fun h2=>?_))))))))
  ·refine E Z (B.add Z Z bg) (E Z (B.sub Z Z bg) (E Z (B.shrJ Z Z aa aa hM) (E Z (B.idxE (n:=(i+1)) Z Z Z jg qN aa bj) (E Z (B.setE (z0:=((l.getD i 0) / M)) Z Z Z Z Z qN bj (fun _=>rfl)) ?_))))
   have hM0:M=B64\/0<s:=by first|exact .inr aa|exact .inl bk
   refine E Z (B.add Z Z bg) (pk Z (L2 (i+1) (List.set (List.set out i ((out.getD i 0)+((l.getD i 0)*K%B64))) (i+1) ((l.getD i 0) / M)) ?_ ?_ (sb Z Z Z)))
   · (refine⟨aa,?_⟩;first|exact hq.1|exact shl_zero hq.1 hI0.2 aa hxi hM0)
   · omega
  have hM0:M=B64\/0<s:=by first|exact .inr aa|exact .inl bk
  refine E Z (B.add Z Z bg) (pk Z (L2 (i+1) (List.set out i ((out.getD i 0)+((l.getD i 0)*K%B64))) ?_ ?_ (sb Z Z Z)))
  · (refine⟨aa,?_⟩;first|exact hq.1|exact shl_zero hq.1 hI0.2 aa hxi hM0)
  · omega
 exact Fz 9999 4 Z Z Z (Rt Z (lF Z (lsl (by exact shl_fix (shl_end hI0.2 aa hI0.1)))))
theorem w263 (x y:Nat) (hB:0<y) (hA:(dig B64 x).length<=999990) (hBl:(dig B64 y).length<=999990):CKa 215 [vL eU (dig B64 x),vL eU (dig B64 y)] (.tup [vL eU (dig B64 (x / y)),vL eU (dig B64 (x%y))]):=by
 refine cG qf215 Z (nB Z) Z (E Z (B.nilS (enc:=eU) Z) (E Z (B.nilS (enc:=eU) Z) (C Z (w251 x y aa aa) Z Z Z (Cp Z Z (fun h1=>?_) (fun h1=>?_)))))
 ·exact E Z (B.nilS (enc:=eU) Z) (Rt Z (lF Z (ZF (lsl bu) (lsl bu))))
 refine E Z (B.ju Z jg) (Cp Z Z (fun h2=>?_) (fun h2=>?_))
 ·have hone:=dv_one hB aa
  have hBs:=hone.1
  have hd0:=hone.2
  refine E Z (B.ju Z jg) (E Z (B.makeSl (enc:=eU) (sz:=1) (z0:=0) Z Z Z jg in237 Z Z Z by237 bj Z Z) (E Z (B.ju Z jg) (E Z (B.sub Z Z bg) (l3 (fun (i:Int) (r:Nat) (q:List Nat)=>[(0,vL eU (dig B64 x)),(1,vL eU (dig B64 y)),(6,.aref 27 0),(7,WM (r:Int)),(8,vI i)]) (fun _ _ q=>[(27,.arr 0 1 237 (List.map eU q))]) (fun i r q=> -1<=i/\i<(dig B64 x).length/\DivI B64 (dig B64 x) (getD (dig B64 y) 0 0) (toNat (i+1)) q r) (fun i _ _=>toNat (i+1)) (((dig B64 x).length:Int)-1) 0 (replicate ((dig B64 x).length) 0) Z ?_ (sb Z Z Z) ?_))))
  · exact dv_i0 hB hd0
  intro i r q hI0
  refine Cp Z Z (fun h3=>?_) (fun h3=>?_)
  ·have hql:=hI0.2.2.1
   have hrd:=hI0.2.2.2.2.1
   have hai:=(jc qM x).get (show 0<B64 by decide) (toNat i)
   refine E Z (B.idx (z:=0) Z Z jg qN (fun _=>rfl) (Xl bj).symm bj) (E Z (B.idx (z:=0) Z Z jg qN (fun _=>rfl) Z bj) (C Z (w292 r (getD (dig B64 x) (toNat i) 0) (getD (dig B64 y) 0 0) aa aa aa) Z Z Z (E Z (B.idxE Z Z Z jg qN (Xl bj).symm bj) (E Z (B.setE (z0:=((r*B64+(getD (dig B64 x) (toNat i) 0)) / (getD (dig B64 y) 0 0))) Z Z Z Z Z qN bj (fun _=>rfl)) (Dr Z ae (E Z (B.sub Z Z bg) (pk Z (L3 (i-1) ((r*B64+(getD (dig B64 x) (toNat i) 0))%(getD (dig B64 y) 0 0)) (List.set q (toNat i) ((r*B64+(getD (dig B64 x) (toNat i) 0)) / (getD (dig B64 y) 0 0))) ?_ ?_ (sb Z Z Z)))))))))
   · exact dv_n0 hI0 ab hBs hd0
   · omega
  have hqd:=hI0.2.2.2.1
  have hql:=hI0.2.2.1
  have hrd:Dg B64 [r]:=dg_one (KK hI0.2.2.2.2.1 aa)
  have hde:=dv_e0 hI0 ab hd0
  exact Fz 10 6 Z Z Z (C Z (w289 q bv bw) Z Z Z (E Z (B.zA Z) (C Z (w289 [r] bv bw) Z Z Z (Rt Z (lF Z (ZF (lsl bu) (lsl bu)))))))
 have hcmp:=cmp_ge ab
 have hbl:=dv_bl hB
 have htop:=(jc qM y).get (show 0<B64 by decide) ((dig B64 y).length-1)
 refine E Z (B.ju Z jg) (E Z (B.sub Z Z bg) (E Z (B.idx (z:=0) (i:=((dig B64 y).length-1)) Z Z jg qN (fun _=>rfl) aa bj) (C Z (w293 (getD (dig B64 y) ((dig B64 y).length-1) 0) aa) Z Z Z ?_)))
 refine tk 12 Z ?_
 refine tn ⟨[(0,vL eU (dig B64 x)),(1,vL eU (dig B64 y)),(9,vI (((64-q9 (getD (dig B64 y) ((dig B64 y).length-1) 0)):Nat):Int))],[]⟩ rfl rfl Z ?_
 obtain⟨s,es⟩:∃ z,(64-q9 (getD (dig B64 y) ((dig B64 y).length-1) 0))=z:=⟨_,rfl⟩
 obtain⟨K,hK⟩:∃ K,2 ^ s=K:=⟨_,rfl⟩
 obtain⟨M,hM⟩:∃ M,2 ^ (64-s)=M:=⟨_,rfl⟩
 rw[es]
 obtain⟨hs,hKM,hK0,v,hvd,hvn,hvv,_,hnm,hfx⟩:=dv_norm hB hbl es hK hM
 have hvp:0<val B64 v:=by rw[hvv];exact Wf hB hK0
 refine kc (C Z (w294 (dig B64 y) s K M (jc qM _) aa hs hK hM) Z Z Z (C Z (w289 (fixd B64 ((dig B64 y).length+1) (val B64 (dig B64 y)*K)) bv bw) Z Z Z ?_))
 refine tk 13 Z ?_
 refine tn ⟨[(0,vL eU (dig B64 x)),(9,vI (s:Int)),(10,vL eU (dig B64 (val B64 (fixd B64 ((dig B64 y).length+1) (val B64 (dig B64 y)*K)))))],[]⟩ rfl rfl Z ?_
 rw[hfx]
 refine kc (E Z (B.jx (w294o (dig B64 x) s K M (jc qM _) aa hs hK hM) Z Z trivial Z Z) ?_)
 have hml:=dv_len hcmp
 refine E Z (B.ju Z jg) (E Z (B.ju Z jg) (E Z (B.sub Z Z bg) (E Z (B.add Z Z bg) (E Z (B.makeSV (enc:=eU) (sz:=1) (z0:=0) Z Z (Xl bj).symm (Xl bj).symm jg in237 Z Z Z by237 bj Z Z) (E Z (B.ju Z jg) (E Z (B.sub Z Z bg) (l3 (fun (i:Int) (u:List Nat) (q:List Nat)=>[(9,vI (s:Int)),(10,vL eU v),(11,.aref 3012 0),(12,vI (v.length:Int)),(13,.aref 76 0),(14,vI i)]) (fun _ u q=>[(76,.arr 0 1 237 (List.map eU q)),(3012,.arr 0 1 237 (List.map eU u))]) (fun i u q=> -1<=i/\i<=((dig B64 x).length:Int)-(v.length:Int)/\LdI B64 (x*K) v (toNat (i+1)) u q/\u.length=(dig B64 x).length+1/\q.length=toNat (((dig B64 x).length:Int)-(v.length:Int)+1)) (fun i _ _=>toNat (i+1)) (((dig B64 x).length:Int)-(v.length:Int)) (fixd B64 ((dig B64 x).length+1) (val B64 (dig B64 x)*K)) (replicate (toNat (((dig B64 x).length:Int)-(v.length:Int)+1)) 0) Z ?_ (sb Z Z Z) ?_)))))))
 · exact dv_i1 hB hK0 hcmp hvv hvn hbl (dv_kl hK hs)
 intro i u q hI1
 refine Cp Z Z (fun h4=>?_) (fun h4=>?_)
 ·obtain⟨p,w,t,rfl,hpl,hwl,hwd,hwv,hnx,hnl⟩:=dv_win hI1.2.2.1 aa hvd aa aa hvp
  refine E Z (B.add Z Z bg) (E Z (B.add Z Z bg) (E Z (B.slV (i:=(p.length)) (c:=(v.length+1)) Z Z Z Z jg qN aa aa aa aY) (E Z (B.jx (w295 p w t v hwd hvd hwl aa aa hnm hwv) Z Z ⟨rfl,trivial⟩ rfl rfl) (E Z (B.idxE Z Z Z jg qN (Xl bj).symm bj) (E Z (B.setE (z0:=(val B64 w / val B64 v)) Z Z Z Z Z qN bj (fun _=>rfl)) (E Z (B.sub Z Z bg) (pk Z (L3 (i-1) (inW p (fixd B64 (v.length+1) (val B64 w%val B64 v)) t) (List.set q (toNat i) (val B64 w / val B64 v)) ?_ ?_ (sb Z Z Z)))))))))
  · (exact⟨aa,aa,(by rw[show i-1+1=i by omega];exact hnx),hnl.trans hI1.2.2.2.1,(by rw[JB];exact hI1.2.2.2.2)⟩)
  · omega
 have hld:=ld_end (j0 hI1.2.2.1 aa)
 refine l2 (fun (k:Nat) (w:List Nat)=>[(9,vI (s:Int)),(11,.aref 3012 0),(12,vI (v.length:Int)),(13,.aref 76 0),(96,vI (v.length:Int)),(97,vI (k:Int))]) (fun _ w=>[(76,.arr 0 1 237 (List.map eU q)),(3012,.arr 0 1 237 (List.map eU w))]) (fun k w=>k<=v.length/\ShrI B64 u K (v.length) k w) (fun k _=>v.length-k) 0 u Z ?_ (sb Z Z Z) ?_
 · exact⟨zt _,shr_init hI1.2.2.1.1⟩
 intro k w hI2
 refine Cp Z Z (fun h5=>?_) (fun h5=>?_)
 ·have hwl:w.length=List.length u:=hI2.2.1
  have hul:=hI1.2.2.2.1
  refine E Z (B.idxE Z Z Z jg qN Z bj) (E Z (B.loadE (z0:=0) Z Z Qd qN bj Z) (E Z (B.shrJ Z Z Z aa hK) (E Z (B.idxE Z Z Z jg qN Z bj) (E Z (B.setE (z0:=((w.getD k 0) / K)) Z Z Z Z Z qN bj (fun _=>rfl)) ?_))))
  have hsn:=dv_s hK0 hKM hI2 aa aa hI1.2.2.1.1
  refine Em Z Z Z Z ?_
  refine Eg Z Z (fun hc=>B.add (qu Z hc) Z bg) Z (Eg Z Z (fun hc=>B.run Z) Z (Eg Z Z (fun hc=>B.lenA (qu Z hc) Z jg) Z (Eg Z Z (fun hc=>B.lss (qu Z hc) (qu Z hc)) Z (E Z (B.pA Z Z Z Z Z) (Cb Z Z (fun h6=>?_) (fun h6=>?_))))))
  ·refine E Z (B.idxE Z Z Z jg qN Z bj) (E Z (B.loadE (z0:=0) Z Z Qd qN bj Z) (E Z (B.add Z Z bg) (E Z (B.idxE (n:=(k+1)) Z Z Z jg qN aa bj) (E Z (B.loadE (z0:=0) Z Z Qd qN bj Z) (E Z (B.sub Z Z bg) (E Z (B.shlJ Z Z aa aa hM) (E Z (B.orC (64-s) Z Z hM hsn.2.1 hsn.2.2.1 hsn.2.2.2.1) (E Z (B.idxE Z Z Z jg qN Z bj) (E Z (B.setE (z0:=((getD (List.set w k ((w.getD k 0) / K)) k 0)+((getD (List.set w k ((w.getD k 0) / K)) (k+1) 0)*M%B64))) Z Z Z Z Z qN bj (fun _=>rfl)) (Dr Z ae (E Z (B.add Z Z bg) (pk Z (L2 (k+1) (List.set (List.set w k ((w.getD k 0) / K)) k ((getD (List.set w k ((w.getD k 0) / K)) k 0)+((getD (List.set w k ((w.getD k 0) / K)) (k+1) 0)*M%B64))) ?_ ?_ (sb Z Z Z))))))))))))))
   · first|exact dv_n2a hsn hI2 aa|exact dv_n2b hsn hI2 aa aa hKM hK ab
   · omega
  refine E Z (B.add Z Z bg) (pk Z (L2 (k+1) (List.set w k ((w.getD k 0) / K)) ?_ ?_ (sb Z Z Z)))
  · first|exact dv_n2a hsn hI2 aa|exact dv_n2b hsn hI2 aa aa hKM hK ab
  · omega
 have hend:=dv_end hB hK0 hKM hI2 ab hvv hvd hI1.2.2.1 aa aa
 have hqd:=hI1.2.2.1.2.1
 have hwd:=hend.1
 have hwl:w.length=List.length u:=hI2.2.1
 have hul:=hI1.2.2.2.1
 have hql:=hI1.2.2.2.2
 have htl:(take (v.length) w).length<=List.length v:=by rw[zn];omega
 exact Fz 27 13 Z Z Z (Fz 27 11 Z Z Z (C Z (w289 q bv bw) Z Z Z (E Z (B.slT Z Z jg qN Z bj) (C Z (w289 (take (v.length) w) bv bw) Z Z Z (Dr Z ae (Rt Z (lF Z (ZF (lsl bu) (lsl bu)))))))))
theorem jq {z:Int} (h:I63<=z.natAbs):∃ d ds,dig B64 z.natAbs=d::ds:=by
 cases e:dig B64 z.natAbs with
 | nil=>have:=dig_nil qM e;unfold I63 at h;omega
 | cons d ds=>exact⟨d,ds,rfl⟩
theorem part_1 {z:Int} (hz:R64 z) (h:¬z=0):(DV.tup [vB (decide (z<0)),vL eU [z.natAbs]])=.tup [vB (decide (z<0)),vL eU (dig B64 (natAbs z))]:=by
 rw[j7 qM aa (by unfold R64 at hz;unfold B64;omega)]
theorem mN_s (s:Bool) {n:Nat} (h:n<I63):nH (q6 s n)=(bif s then -(n:Int) else (n:Int))/\nW (q6 s n)=nilP:=by
 have e:q6 s n=((bif s then -(n:Int) else (n:Int)),false):=by
  unfold q6 jo
  rw[zk]
  cases s<;>simp only[Wy,Ww]<;>omega
 rw[e];exact⟨rfl,rfl⟩
theorem mN_b (s:Bool) {n:Nat} (h:I63<=n):nH (q6 s n)=(bif s then -1 else 1)/\nW (q6 s n)=.slice (List.map eU (dig B64 n)):=by
 have e:q6 s n=((bif s then -(n:Int) else (n:Int)),true):=by
  unfold q6 jo
  rw[zl]
  cases s<;>simp only[Wy,Ww]<;>omega
 rw[e]
 unfold nH nW I63 at*
 cases s
 ·simp only[Wy,Ww,XA]
  exact⟨WJ aa,trivial⟩
 simp only[Wy,JX,XA]
 exact⟨WK aa,trivial⟩
theorem made_x {n:Nat} (h1:¬(((dig B64 n).length:Nat):Int)=0):(bif decide ((((dig B64 n).length:Nat):Int)=1) then decide ((((dig B64 n).getD 0 0:Nat):Int)<=9223372036854775807) else false)=decide (n<I63)/\0<n:=by
 have h0:0<n:=by
  rcases XG n with e|e
  ·subst e;rw[jL] at h1;exact absurd Z h1
  exact e
 refine⟨?_,h0⟩
 by_cases hl:(((dig B64 n).length:Nat):Int)=1
 ·obtain⟨a,b⟩:=dv_one h0 hl
  rw[zl hl,b]
  unfold I63
  simp only[Wy]
  exact Jq.2 aa
 rw[zk hl]
 have:=nz_pos qM (nz_dig qM n) (by intro e;rw[e] at h1;exact h1 Z)
 rw[qO qM] at this
 have h3:=Xj (show 0<B64 by decide) (show 1<=(dig B64 n).length-1 by omega)
 rw[Nat.pow_one] at h3
 exact (zk (by unfold I63;unfold B64 at *;omega)).symm
theorem made_d0 {n:Nat} (h0:0<n) (h:n<I63):(dig B64 n).getD 0 0=n:=by
 rw[j7 qM aa (by unfold I63 at h;unfold B64;omega)];rfl
section
variable {s:Bool} {n:Nat}
theorem made_c (h1:¬(((dig B64 n).length:Nat):Int)=0) (h:(bif (bif decide ((((dig B64 n).length:Nat):Int)=1) then decide ((((dig B64 n).getD 0 0:Nat):Int)<=9223372036854775807) else false) then s else false)=true) :
  (dig B64 n).getD 0 0<=9223372036854775807/\n<I63/\(dig B64 n).getD 0 0=n/\s=true:=by
 rw[(made_x h1).1] at h
 have hn:n<I63:=by
  by_cases g:n<I63
  ·exact g
  rw[zk g] at h;cases h
 rw[zl hn] at h
 have e:=made_d0 (made_x h1).2 hn
 exact⟨by rw[e];unfold I63 at hn;omega,hn,e,h⟩
theorem made_d (h1:¬(((dig B64 n).length:Nat):Int)=0) (h2:(bif (bif decide ((((dig B64 n).length:Nat):Int)=1) then decide ((((dig B64 n).getD 0 0:Nat):Int)<=9223372036854775807) else false) then s else false)=false) (h:(bif decide ((((dig B64 n).length:Nat):Int)=1) then decide ((((dig B64 n).getD 0 0:Nat):Int)<=9223372036854775807) else false)=true) :
  (dig B64 n).getD 0 0<=9223372036854775807/\n<I63/\(dig B64 n).getD 0 0=n/\s=false:=by
 rw[h] at h2
 rw[(made_x h1).1] at h
 have hn:n<I63:=X6 h
 have e:=made_d0 (made_x h1).2 hn
 exact⟨by rw[e];unfold I63 at hn;omega,hn,e,h2⟩
theorem made_0 (h:(((dig B64 n).length:Nat):Int)=0):(DV.pv (.agg [pI 0,nilP]))=.pv (.agg [pI (nH (q6 s n)),nW (q6 s n)]):=by
 have e:n=0:=dig_nil qM (QS.1 aa)
 subst e
 obtain⟨a,b⟩:=mN_s s (show 0<I63 by decide)
 rw[a,b]
 cases s<;>rfl
theorem made_1 (hm:(dig B64 n).getD 0 0<=9223372036854775807/\n<I63/\(dig B64 n).getD 0 0=n/\s=true):(DV.pv (.agg [pI (0-(((dig B64 n).getD 0 0:Nat):Int)),nilP]))=.pv (.agg [pI (nH (q6 s n)),nW (q6 s n)]):=by
 obtain⟨_,hn,e,rfl⟩:=hm
 obtain⟨a,b⟩:=mN_s true hn
 rw[a,b,e,Wy,Kx]
theorem made_2 (hm:(dig B64 n).getD 0 0<=9223372036854775807/\n<I63/\(dig B64 n).getD 0 0=n/\s=false):(DV.pv (.agg [pI (((dig B64 n).getD 0 0:Nat):Int),nilP]))=.pv (.agg [pI (nH (q6 s n)),nW (q6 s n)]):=by
 obtain⟨_,hn,e,rfl⟩:=hm
 obtain⟨a,b⟩:=mN_s false hn
 rw[a,b,e,Ww]
theorem made_3 (h1:¬(((dig B64 n).length:Nat):Int)=0) (h:(bif decide ((((dig B64 n).length:Nat):Int)=1) then decide ((((dig B64 n).getD 0 0:Nat):Int)<=9223372036854775807) else false)=false) (hs:s=true):(DV.pv (.agg [pI (-1),.slice (List.map eU (dig B64 n))]))=.pv (.agg [pI (nH (q6 s n)),nW (q6 s n)]):=by
 rw[(made_x h1).1] at h
 obtain⟨a,b⟩:=mN_b s (Nat.le_of_not_lt (XM h))
 rw[a,b,hs];rfl
theorem made_4 (h1:¬(((dig B64 n).length:Nat):Int)=0) (h:(bif decide ((((dig B64 n).length:Nat):Int)=1) then decide ((((dig B64 n).getD 0 0:Nat):Int)<=9223372036854775807) else false)=false) (hs:s=false):(DV.pv (.agg [pI 1,.slice (List.map eU (dig B64 n))]))=.pv (.agg [pI (nH (q6 s n)),nW (q6 s n)]):=by
 rw[(made_x h1).1] at h
 obtain⟨a,b⟩:=mN_b s (Nat.le_of_not_lt (XM h))
 rw[a,b,hs];rfl
end
theorem part_0 {z:Int} (h:z=0):(DV.tup [vB false,vL eU []])=.tup [vB (decide (z<0)),vL eU (dig B64 (natAbs z))]:=by
 subst h;rw[Jv,jL];rfl
theorem ag95:aggT tab 95=some false:=ae
theorem ag3:aggT tab 3=some false:=ae
theorem fa97_0:fadQ tab 97 0=some 0:=ae
theorem fa97_1:fadQ tab 97 1=some 1:=ae
theorem sz95:szT tab 95=some 1:=ae
theorem sz3:szT tab 3=some 1:=ae
theorem w177 (z:Int):CKa 115 [vI z] (nV (ofI z)):=by
 exact cG qf115 Z (nB Z) Z (E Z (B.bZ Z Z) (E Z (B.runZ Z (fun l=>Frz.aggZ l Z) Z) (Rt Z (lF Z bx))))
theorem w247s (z:Int) (hR:R64 z):CKa 188 [.pv (.agg [pI z,nilP])] (.tup [vB (decide (z<0)),vL eU (dig B64 (natAbs z))]):=by
 refine cG qf188 Z (nB Z) Z (E Z (B.nilS (enc:=eU) Z) (E Z (B.run Z) (CF Z Z (Cp Z Z (fun h1=>?_) (fun h1=>?_)))))
 ·exact E Z (B.nilS (enc:=eU) Z) (Rt Z (lF Z bz))
 exact C Z (w254 z hR) Z Z Z (E Z (B.zA Z) (Dr Z ae (Rt Z (lF Z bz))))
theorem w247b (z s:Int) (d:Nat) (ds:List Nat) (hd:dig B64 (natAbs z)=d::ds) (hs:s<0↔z<0):CKa 188 [.pv (.agg [pI s,pL eU (d::ds)])] (.tup [vB (decide (z<0)),vL eU (dig B64 (natAbs z))]):=by
 exact cG qf188 Z (nB Z) Z (E Z (B.nilS (enc:=eU) Z) (E Z (B.run Z) (CT Z Z (Dr Z ae (Rt Z (lF Z (by rw[hd,Jq.2 hs])))))))
theorem w247 (x:NI) (hx:okI x):CKa 188 [.pv (.agg [pI (nH x),nW x])] (.tup [vB (decide (x.1<0)),vL eU (dig B64 x.1.natAbs)]):=by
 obtain⟨z,b⟩:=x
 cases b
 ·exact w247s z (by unfold okI at hx;unfold R64;simp only[qk,qm] at hx;omega)
 obtain⟨d,ds,hd⟩:=jq (z:=z) hx
 have e:nW (z,true)=.slice (List.map eU (d::ds)):=by rw[<-hd];rfl
 rw[e]
 exact w247b z _ d ds hd (by unfold nH;simp only[Wy];split<;>omega)
theorem w248 (s:Bool) (n:Nat) (hn:(dig B64 n).length<=1000000):CKa 189 [vB s,vL eU (dig B64 n)] (nV (q6 s n)):=by
 refine cG qf189 Z (nB Z) Z (E Z (B.bZ Z Z) (E Z (B.ju Z jg) (Cp Z Z (fun h1=>?_) (fun h1=>?_))))
 ·exact E Z (B.runZ Z (fun l=>Frz.aggZ l Z) Z) (Rt Z (lF Z b6))
 refine E Z (B.ju Z jg) ?_
 refine Em Z Z Z Z ?_
 refine Eg Z Z (fun hc=>B.idx (z:=0) (i:=0) (qu Z hc) Z jg qN (fun _=>rfl) Z bh) Z (Eg Z Z (fun hc=>B.loadP (qu Z hc) Qd qN) Z (Eg Z Z (fun hc=>B.leq (qu Z hc) Z) Z (E Z (B.pA Z Z Z Z Z) ?_)))
 refine Em Z Z Z Z ?_
 refine E Z (B.pA Z Z Z Z Z) (Cb Z Z (fun h2=>?_) (fun h2=>?_))
 ·have hm:=made_c h1 ab
  have hm1:=hm.1
  exact E Z (B.idx (z:=0) (i:=0) Z Z jg qN (fun _=>rfl) Z bh) (E Z (B.toI Z un237 un3 bg Z) (E Z (B.neg Z bg) (E Z (B.runZ Z (fun l=>Frz.aggZ l Z) Z) (Rt Z (lF Z b6)))))
 refine E Z (B.ju Z jg) ?_
 refine Em Z Z Z Z ?_
 refine Eg Z Z (fun hc=>B.idx (z:=0) (i:=0) (qu Z hc) Z jg qN (fun _=>rfl) Z bh) Z (Eg Z Z (fun hc=>B.loadP (qu Z hc) Qd qN) Z (Eg Z Z (fun hc=>B.leq (qu Z hc) Z) Z (E Z (B.pA Z Z Z Z Z) (Cb Z Z (fun h3=>?_) (fun h3=>?_)))))
 ·have hm:=made_d h1 h2 ab
  have hm1:=hm.1
  exact E Z (B.idx (z:=0) (i:=0) Z Z jg qN (fun _=>rfl) Z bh) (E Z (B.toI Z un237 un3 bg Z) (E Z (B.runZ Z (fun l=>Frz.aggZ l Z) Z) (Rt Z (lF Z b6))))
 refine Cb Z Z (fun h4=>?_) (fun h4=>?_)
 ·exact E Z (B.run (val:=.pv (.agg [pI (-1),pL eU (dig B64 n)])) (m:=[]) (rd:=[]) ae) (Rt Z (lF Z b6))
 exact E Z (B.run (val:=.pv (.agg [pI 1,pL eU (dig B64 n)])) (m:=[]) (rd:=[]) ae) (Rt Z (lF Z b6))
theorem kW (a b:Nat):(dig B64 (a+b)).length<=(dig B64 a).length+(dig B64 b).length+1:=by
 refine je qM ?_
 have ha:=jB qM a
 have hb:=jB qM b
 have h1:=Xj (show 0<B64 by decide) (show (dig B64 a).length<=(dig B64 a).length+(dig B64 b).length by omega)
 have h2:=Xj (show 0<B64 by decide) (show (dig B64 b).length<=(dig B64 a).length+(dig B64 b).length by omega)
 rw[KN]
 have h3:=Xw (B64 ^ ((dig B64 a).length+(dig B64 b).length)) (show 2<=B64 by decide)
 omega
theorem Zd (a b:Nat):(dig B64 (a*b)).length<=(dig B64 a).length+(dig B64 b).length:=by
 refine je qM ?_
 rw[Wh]
 exact Jn (jB qM a) (jB qM b)
theorem Zb (a b:Nat):(dig B64 (a-b)).length<=(dig B64 a).length:=
 je qM (XI (Nat.sub_le a b) (jB qM a))
theorem w250d (a b:Nat) (ha:(dig B64 a).length<=1000000) (hb:(dig B64 b).length<=1000000):CKa 191 [vL eU (dig B64 a),vL eU (dig B64 b)] (vL eU (dig B64 (a+b))):=by
 have:=w250 (dig B64 a) (dig B64 b) (jc qM a) (jc qM b) ha hb
 rwa [qO qM,qO qM] at this
theorem w252d (a b:Nat) (ha:(dig B64 a).length<=1000000) (hb:(dig B64 b).length<=1000000) (h:b<=a):CKa 193 [vL eU (dig B64 a),vL eU (dig B64 b)] (vL eU (dig B64 (a-b))):=by
 have:=w252 (dig B64 a) (dig B64 b) (jc qM a) (jc qM b) ha hb (dv_len h) (by rw[qO qM,qO qM];exact h)
 rwa [qO qM,qO qM] at this
theorem w255d (a b:Nat) (ha:(dig B64 a).length<=1000000) (hb:(dig B64 b).length<=1000000):CKa 197 [vL eU (dig B64 a),vL eU (dig B64 b)] (vL eU (dig B64 (a*b))):=by
 have:=w255 (dig B64 a) (dig B64 b) (jc qM a) (jc qM b) ha hb
 rwa [qO qM,qO qM] at this
theorem nW_b {z:Int} {d:Nat} {e:List Nat} (h:dig B64 z.natAbs=d::e):nW (z,true)=.slice (List.map eU (d::e)):=by rw[<-h];rfl
theorem sg_iff (z:Int):nH (z,true)<0↔z<0:=by unfold nH;simp only[Wy];split<;>omega
theorem ok_R {z:Int} (h:okI (z,false)):R64 z:=by unfold okI at h;unfold R64;simp only[qk,qm] at h;omega
theorem madeN_neg (z:Int):q6 (!(decide (z<0))) z.natAbs=jo (-z):=by
 unfold q6
 by_cases h:z<0
 ·rw[zl h];congr 1;simp only[Ke,Ww];omega
 rw[zk h];congr 1;simp only[Bool.not_false,Wy];omega
theorem neg_z {z:Int} (h:decide (z≠ -9223372036854775808)=true):z≠ -9223372036854775808:=by simpa using h
theorem neg_s {z:Int} (h:decide (z≠ -9223372036854775808)=true):(DV.pv (.agg [pI (0-z),nilP]))=(nV (negI (z,false))):=by
 have e:negI (z,false)=(-z,false):=by unfold negI;simp only[Ww];rw[WJ (neg_z h)]
 rw[e,Kx];rfl
theorem neg_m {z:Int} (h:decide (z≠ -9223372036854775808)=false):(nV (q6 (!(decide (z<0))) z.natAbs))=(nV (negI (z,false))):=by
 have e:negI (z,false)=jo (-z):=by unfold negI;simp only[Ww];rw[WK ai]
 rw[e,madeN_neg]
theorem neg_b {z:Int}:(nV (q6 (!(decide (z<0))) z.natAbs))=(nV (negI (z,true))):=by
 rw[madeN_neg];rfl
theorem sgn_s {z:Int}:vI (max (-1) (min 1 z))=vI (j8 z):=by
 unfold j8
 congr 3
 split
 ·omega
 split<;>omega
theorem sg_of {z s:Int} (h:s=if z<0 then -1 else 1):s<0↔z<0:=by rw[h];split<;>omega
theorem sgn_b {z s:Int} {d:Nat} {e:List Nat} (hd:dig B64 z.natAbs=d::e) (h:s=if z<0 then -1 else 1):vI (max (-1) (min 1 s))=vI (j8 z):=by
 have h0:z≠0:=by
  intro e0
  subst e0
  rw[Jv,jL] at hd
  cases hd
 rw[h]
 unfold j8
 congr 3
 split
 ·rfl
 first|rfl|(rw[WJ h0];rfl)
theorem ag97:aggT tab 97=some true:=ae
theorem sz97:szT tab 97=some 2:=ae
theorem w192s (z1:Int) (hR1:R64 z1) (hl1:(dig B64 (natAbs z1)).length<=400000):CKa 121 [.pv (.agg [pI z1,nilP])] (nV (negI (z1,false))):=by
 refine cG qf121 Z (nB Z) Z (E Z (B.bZ Z Z) (E Z (B.run Z) (Eg Z Z (fun hc=>B.fadB Z fa97_0 Z) Z (Eg Z Z (fun hc=>B.loadB (qu Z hc) Z Z ag3 sz3 Z) Z (Eg Z Z (fun hc=>B.neq (qu Z hc) Z) Z (E Z (B.pA Z Z Z Z Z) (Cb Z Z (fun h1=>?_) (fun h1=>?_))))))))
 ·have hz:=neg_z h1
  exact E Z (B.neg Z (by first|(unfold R64;omega)|(unfold R64 at *;omega))) (E Z (B.runZ Z (fun l=>Frz.aggZ l Z) Z) (Rt Z (lF Z b7)))
 exact C Z (w247s z1 hR1) Z Z Z (C Z (w248 (!(decide (z1<0))) (natAbs z1) b8) Z Z Z (Rt Z (lF Z b7)))
theorem w192b (z1 s1:Int) (d1:Nat) (e1:List Nat) (hd1:dig B64 (natAbs z1)=d1::e1) (hs1:s1=if z1<0 then -1 else 1) (hb1:I63<=natAbs z1) (hl1:(dig B64 (natAbs z1)).length<=400000):CKa 121 [.pv (.agg [pI s1,pL eU (d1::e1)])] (nV (negI (z1,true))):=by
 refine cG qf121 Z (nB Z) Z (E Z (B.bZ Z Z) (E Z (B.run Z) (Eg Z Z (fun hc=>B.fadB Z fa97_0 Z) Z (Eg Z Z (fun hc=>B.loadB (qu Z hc) Z Z ag3 sz3 Z) Z (Eg Z Z (fun hc=>B.neq (qu Z hc) Z) Z (E Z (B.pA Z Z Z Z Z) (Cb Z Z (fun h1=>?_) (fun h1=>?_))))))))
 ·exact absurd h1 Xy
 exact C Z (w247b z1 s1 d1 e1 hd1 (sg_of hs1)) Z Z Z (C Z (w248 (!(decide (z1<0))) (natAbs z1) b8) Z Z Z (Rt Z (lF Z b7)))
theorem w192 (x:NI) (hx:okI x) (hxl:(dig B64 (natAbs x.1)).length<=400000):CKa 121 [.pv (.agg [pI (nH x),(nW x)])] (.pv (.agg [pI (nH (negI x)),(nW (negI x))])):=by
 obtain⟨z1,b1⟩:=x
 cases b1
 ·exact w192s z1 (ok_R hx) hxl
 obtain⟨d1,e1,hd1⟩:=jq (z:=z1) hx
 rw[nW_b hd1]
 exact w192b z1 _ d1 e1 hd1 Z hx hxl
theorem w212s (z1:Int) (hR1:R64 z1) (hl1:(dig B64 (natAbs z1)).length<=1000000000):CKa 165 [.pv (.agg [pI z1,nilP])] (vI (j8 (fst (z1,false)))):=by
 exact cG qf165 Z (nB Z) Z (E Z (B.min Z Z) (E Z (B.max Z Z) (Rt Z (lF Z bA))))
theorem w212b (z1 s1:Int) (d1:Nat) (e1:List Nat) (hd1:dig B64 (natAbs z1)=d1::e1) (hs1:s1=if z1<0 then -1 else 1) (hb1:I63<=natAbs z1) (hl1:(dig B64 (natAbs z1)).length<=1000000000):CKa 165 [.pv (.agg [pI s1,pL eU (d1::e1)])] (vI (j8 (fst (z1,true)))):=by
 exact cG qf165 Z (nB Z) Z (E Z (B.min Z Z) (E Z (B.max Z Z) (Rt Z (lF Z bA))))
theorem w212 (x:NI) (hx:okI x) (hxl:(dig B64 (natAbs x.1)).length<=1000000000):CKa 165 [.pv (.agg [pI (nH x),(nW x)])] (vI (j8 (fst x))):=by
 obtain⟨z1,b1⟩:=x
 cases b1
 ·exact w212s z1 (ok_R hx) hxl
 obtain⟨d1,e1,hd1⟩:=jq (z:=z1) hx
 rw[nW_b hd1]
 exact w212b z1 _ d1 e1 hd1 Z hx hxl
theorem cmp_ge2 {a b:Nat} (h:0<=cmpN a b):b<=a:=cmp_ge aa
theorem cmp_lt2 {a b:Nat} (h:¬0<=cmpN a b):a<=b:=by grind [cmpN]
theorem dec_eq {p q:Prop} [Decidable p] [Decidable q]:(decide p==decide q)=true↔(p↔q):=by grind
theorem ZE {p q:Prop} [Decidable p] [Decidable q]:(decide p==decide q)=false↔¬(p↔q):=by grind
theorem add_w {a b:Int} (ha:R64 a) (hb:R64 b):((a<wr64 (a+b)↔0<b)↔R64 (a+b))/\(R64 (a+b)->wr64 (a+b)=a+b):=by
 unfold R64 wr64 at*
 split<;>omega
section
variable {a b:Int} {x y:NI}
theorem add_s (ha:R64 a) (hb:R64 b) (h:(decide (a<wr64 (a+b))==decide (0<b))=true):(DV.pv (.agg [pI (wr64 (a+b)),nilP]))=(nV (addI (a,false) (b,false))):=by
 have hr:=(add_w ha hb).1.1 (dec_eq.1 h)
 have e:addI (a,false) (b,false)=(a+b,false):=by
  unfold addI
  simp only[Bool.or_self,Ww]
  rw[WK (by unfold R64 at hr;omega)]
 rw[e,(add_w ha hb).2 hr];rfl
theorem jZ (ha:R64 a) (hb:R64 b) (h:(decide (a<wr64 (a+b))==decide (0<b))=false):addI (a,false) (b,false)=jo (a+b):=by
 have hr:¬R64 (a+b):=fun g=>ZE.1 h ((add_w ha hb).1.2 g)
 unfold addI
 simp only[Bool.or_self,Ww]
 rw[WJ (by unfold R64 at hr;omega)]
theorem add_e (h:(decide (a<0)==decide (b<0))=true) (e:addI x y=jo (a+b)):(nV (q6 (decide (a<0)) (a.natAbs+b.natAbs)))=(nV (addI x y)):=by
 have h:=dec_eq.1 h
 have g:q6 (decide (a<0)) (a.natAbs+b.natAbs)=jo (a+b):=by
  unfold q6
  grind
 rw[e,g]
theorem add_g (h:(decide (a<0)==decide (b<0))=false) (hl:b.natAbs<=a.natAbs) (e:addI x y=jo (a+b)):(nV (q6 (decide (a<0)) (a.natAbs-b.natAbs)))=(nV (addI x y)):=by
 have h:=ZE.1 h
 have g:q6 (decide (a<0)) (a.natAbs-b.natAbs)=jo (a+b):=by
  unfold q6
  grind
 rw[e,g]
theorem add_l (h:(decide (a<0)==decide (b<0))=false) (hl:a.natAbs<=b.natAbs) (e:addI x y=jo (a+b)):(nV (q6 (decide (b<0)) (b.natAbs-a.natAbs)))=(nV (addI x y)):=by
 have h:=ZE.1 h
 have g:q6 (decide (b<0)) (b.natAbs-a.natAbs)=jo (a+b):=by
  unfold q6
  grind
 rw[e,g]
end
theorem un4:tab.underlying 4=some (.bool):=ae
theorem w198ss (z1:Int) (z2:Int) (hR1:R64 z1) (hl1:(dig B64 (natAbs z1)).length<=400000) (hR2:R64 z2) (hl2:(dig B64 (natAbs z2)).length<=400000):CKa 131 [.pv (.agg [pI z1,nilP]),.pv (.agg [pI z2,nilP])] (nV (addI (z1,false) (z2,false))):=by
 refine cG qf131 Z (nB Z) Z (E Z (B.bZ Z Z) (E Z (B.run Z) (Et Z Z (B.fadB Z fa97_1 Z) (Et Z Z (B.loadB Z Z Z ag95 sz95 Z) (Et Z Z (B.run Z) (E Z (B.pick Z Z Z Z Z (pick_tt _)) (Cb Z Z (fun h1=>?_) (fun h1=>?_))))))))
 ·refine E Z (B.addW Z Z) (E Z (B.bqB Z Z un4) (Cb Z Z (fun h2=>?_) (fun h2=>?_)))
  ·exact E Z (B.runZ Z (fun l=>Frz.aggZ l Z) Z) (Rt Z (lF Z fa))
  refine C Z (w247s z1 hR1) Z Z Z (C Z (w247s z2 hR2) Z Z Z (E Z (B.bqB Z Z un4) (Cb Z Z (fun h3=>?_) (fun h3=>?_))))
  ·exact C Z (w250d (natAbs z1) (natAbs z2) aa aa) Z Z Z (C Z (w248 (decide (z1<0)) ((natAbs z1)+(natAbs z2)) b8) Z Z Z (Rt Z (lF Z fa)))
  refine C Z (w251 (natAbs z1) (natAbs z2) aa aa) Z Z Z (Cp Z Z (fun h4=>?_) (fun h4=>?_))
  ·have hle:=cmp_ge2 ab
   exact C Z (w252d (natAbs z1) (natAbs z2) aa aa aa) Z Z Z (C Z (w248 (decide (z1<0)) ((natAbs z1)-(natAbs z2)) b8) Z Z Z (Rt Z (lF Z fa)))
  have hle:=cmp_lt2 ab
  exact C Z (w252d (natAbs z2) (natAbs z1) aa aa aa) Z Z Z (C Z (w248 (decide (z2<0)) ((natAbs z2)-(natAbs z1)) b8) Z Z Z (Rt Z (lF Z fa)))
 grind
theorem w198sb (z1:Int) (z2 s2:Int) (d2:Nat) (e2:List Nat) (hR1:R64 z1) (hl1:(dig B64 (natAbs z1)).length<=400000) (hd2:dig B64 (natAbs z2)=d2::e2) (hs2:s2=if z2<0 then -1 else 1) (hb2:I63<=natAbs z2) (hl2:(dig B64 (natAbs z2)).length<=400000):CKa 131 [.pv (.agg [pI z1,nilP]),.pv (.agg [pI s2,pL eU (d2::e2)])] (nV (addI (z1,false) (z2,true))):=by
 refine cG qf131 Z (nB Z) Z (E Z (B.bZ Z Z) (E Z (B.run Z) (Et Z Z (B.fadB Z fa97_1 Z) (Et Z Z (B.loadB Z Z Z ag95 sz95 Z) (Et Z Z (B.run Z) (E Z (B.pick Z Z Z Z Z (pick_tt _)) (Cb Z Z (fun h1=>?_) (fun h1=>?_))))))))
 ·grind
 refine C Z (w247s z1 hR1) Z Z Z (C Z (w247b z2 s2 d2 e2 hd2 (sg_of hs2)) Z Z Z (E Z (B.bqB Z Z un4) (Cb Z Z (fun h2=>?_) (fun h2=>?_))))
 ·exact C Z (w250d (natAbs z1) (natAbs z2) aa aa) Z Z Z (C Z (w248 (decide (z1<0)) ((natAbs z1)+(natAbs z2)) b8) Z Z Z (Rt Z (lF Z fa)))
 refine C Z (w251 (natAbs z1) (natAbs z2) aa aa) Z Z Z (Cp Z Z (fun h3=>?_) (fun h3=>?_))
 ·have hle:=cmp_ge2 ab
  exact C Z (w252d (natAbs z1) (natAbs z2) aa aa aa) Z Z Z (C Z (w248 (decide (z1<0)) ((natAbs z1)-(natAbs z2)) b8) Z Z Z (Rt Z (lF Z fa)))
 have hle:=cmp_lt2 ab
 exact C Z (w252d (natAbs z2) (natAbs z1) aa aa aa) Z Z Z (C Z (w248 (decide (z2<0)) ((natAbs z2)-(natAbs z1)) b8) Z Z Z (Rt Z (lF Z fa)))
theorem w198bs (z1 s1:Int) (d1:Nat) (e1:List Nat) (z2:Int) (hd1:dig B64 (natAbs z1)=d1::e1) (hs1:s1=if z1<0 then -1 else 1) (hb1:I63<=natAbs z1) (hl1:(dig B64 (natAbs z1)).length<=400000) (hR2:R64 z2) (hl2:(dig B64 (natAbs z2)).length<=400000):CKa 131 [.pv (.agg [pI s1,pL eU (d1::e1)]),.pv (.agg [pI z2,nilP])] (nV (addI (z1,true) (z2,false))):=by
 refine cG qf131 Z (nB Z) Z (E Z (B.bZ Z Z) (E Z (B.run Z) (Ef' Z Z (Ef' Z Z (Ef' Z Z (E Z (B.pkF Z Z Z Z Z) (CF Z Z (C Z (w247b z1 s1 d1 e1 hd1 (sg_of hs1)) Z Z Z (C Z (w247s z2 hR2) Z Z Z (E Z (B.bqB Z Z un4) (Cb Z Z (fun h1=>?_) (fun h1=>?_))))))))))))
 ·exact C Z (w250d (natAbs z1) (natAbs z2) aa aa) Z Z Z (C Z (w248 (decide (z1<0)) ((natAbs z1)+(natAbs z2)) b8) Z Z Z (Rt Z (lF Z fa)))
 refine C Z (w251 (natAbs z1) (natAbs z2) aa aa) Z Z Z (Cp Z Z (fun h2=>?_) (fun h2=>?_))
 ·have hle:=cmp_ge2 ab
  exact C Z (w252d (natAbs z1) (natAbs z2) aa aa aa) Z Z Z (C Z (w248 (decide (z1<0)) ((natAbs z1)-(natAbs z2)) b8) Z Z Z (Rt Z (lF Z fa)))
 have hle:=cmp_lt2 ab
 exact C Z (w252d (natAbs z2) (natAbs z1) aa aa aa) Z Z Z (C Z (w248 (decide (z2<0)) ((natAbs z2)-(natAbs z1)) b8) Z Z Z (Rt Z (lF Z fa)))
theorem w198bb (z1 s1:Int) (d1:Nat) (e1:List Nat) (z2 s2:Int) (d2:Nat) (e2:List Nat) (hd1:dig B64 (natAbs z1)=d1::e1) (hs1:s1=if z1<0 then -1 else 1) (hb1:I63<=natAbs z1) (hl1:(dig B64 (natAbs z1)).length<=400000) (hd2:dig B64 (natAbs z2)=d2::e2) (hs2:s2=if z2<0 then -1 else 1) (hb2:I63<=natAbs z2) (hl2:(dig B64 (natAbs z2)).length<=400000):CKa 131 [.pv (.agg [pI s1,pL eU (d1::e1)]),.pv (.agg [pI s2,pL eU (d2::e2)])] (nV (addI (z1,true) (z2,true))):=by
 refine cG qf131 Z (nB Z) Z (E Z (B.bZ Z Z) (E Z (B.run Z) (Ef' Z Z (Ef' Z Z (Ef' Z Z (E Z (B.pkF Z Z Z Z Z) (CF Z Z (C Z (w247b z1 s1 d1 e1 hd1 (sg_of hs1)) Z Z Z (C Z (w247b z2 s2 d2 e2 hd2 (sg_of hs2)) Z Z Z (E Z (B.bqB Z Z un4) (Cb Z Z (fun h1=>?_) (fun h1=>?_))))))))))))
 ·exact C Z (w250d (natAbs z1) (natAbs z2) aa aa) Z Z Z (C Z (w248 (decide (z1<0)) ((natAbs z1)+(natAbs z2)) b8) Z Z Z (Rt Z (lF Z fa)))
 refine C Z (w251 (natAbs z1) (natAbs z2) aa aa) Z Z Z (Cp Z Z (fun h2=>?_) (fun h2=>?_))
 ·have hle:=cmp_ge2 ab
  exact C Z (w252d (natAbs z1) (natAbs z2) aa aa aa) Z Z Z (C Z (w248 (decide (z1<0)) ((natAbs z1)-(natAbs z2)) b8) Z Z Z (Rt Z (lF Z fa)))
 have hle:=cmp_lt2 ab
 exact C Z (w252d (natAbs z2) (natAbs z1) aa aa aa) Z Z Z (C Z (w248 (decide (z2<0)) ((natAbs z2)-(natAbs z1)) b8) Z Z Z (Rt Z (lF Z fa)))
theorem w198 (x y:NI) (hx:okI x) (hy:okI y) (hxl:(dig B64 (natAbs x.1)).length<=400000) (hyl:(dig B64 (natAbs y.1)).length<=400000):CKa 131 [.pv (.agg [pI (nH x),(nW x)]),.pv (.agg [pI (nH y),(nW y)])] (.pv (.agg [pI (nH (addI x y)),(nW (addI x y))])):=by
 obtain⟨z1,b1⟩:=x
 obtain⟨z2,b2⟩:=y
 cases b1
 ·cases b2
  ·exact w198ss z1 z2 (ok_R hx) hxl (ok_R hy) hyl
  obtain⟨d2,e2,hd2⟩:=jq (z:=z2) hy
  rw[nW_b hd2]
  exact w198sb z1 z2 _ d2 e2 (ok_R hx) hxl hd2 Z hy hyl
 cases b2
 ·obtain⟨d1,e1,hd1⟩:=jq (z:=z1) hx
  rw[nW_b hd1]
  exact w198bs z1 _ d1 e1 z2 hd1 Z hx hxl (ok_R hy) hyl
 obtain⟨d1,e1,hd1⟩:=jq (z:=z1) hx
 obtain⟨d2,e2,hd2⟩:=jq (z:=z2) hy
 rw[nW_b hd1,nW_b hd2]
 exact w198bb z1 _ d1 e1 z2 _ d2 e2 hd1 Z hx hxl hd2 Z hy hyl
theorem nH_neg {x:NI}:nH x<0↔x.1<0:=by
 obtain⟨z,b⟩:=x
 cases b
 ·exact Iff.rfl
 exact sg_iff z
theorem abs_n {x:NI} (_:okI x) (h:nH x<0):(nV (negI x))=(nV (absI x)):=by
 unfold absI;rw[WK (nH_neg.1 h)]
theorem abs_p {x:NI} (_:okI x) (h:¬nH x<0):(nV x)=(nV (absI x)):=by
 unfold absI;rw[WJ fun g=>h (nH_neg.2 g)]
theorem w246 (x y:NI) (hx:okI x) (hy:okI y) (hxl:(dig B64 (natAbs x.1)).length<=400000) (hyl:(dig B64 (natAbs y.1)).length<=400000):CKa 180 [nV x,nV y] (nV (subI x y)):=by
 exact cG qf180 Z (nB Z) Z (E Z (B.bZ Z Z) (C Z (w192 y hy hyl) Z Z Z (C Z (w198 x (negI y) hx (ZA hy) hxl (by rw[kS,JX];exact hyl)) Z Z Z (Dr Z ae (Rt Z (lF Z bx))))))
theorem w240 (x:NI) (hx:okI x) (hxl:(dig B64 (natAbs x.1)).length<=400000):CKa 174 [nV x] (nV (absI x)):=by
 refine cG qf174 Z (nB Z) Z (E Z (B.bZ Z Z) (Cp Z Z (fun h1=>?_) (fun h1=>?_)))
 ·exact C Z (w192 x hx hxl) Z Z Z (Rt Z (lF Z bE))
 exact Rt Z (lF Z bE)
theorem nab {z:Int} (h:R64 z):z.natAbs<B64:=by unfold R64 at h;unfold B64;omega
theorem mul_ok {p:Nat} (h:(bif decide (((p / B64:Nat):Int)=0) then decide (((p%B64:Nat):Int)<=9223372036854775807) else false)=true):p%B64=p/\p<I63:=by
 by_cases g:((p / B64:Nat):Int)=0
 ·rw[zl g] at h
  have h:=X6 h
  have e:=JL p B64
  rw[show p / B64=0 by omega,KM,KD] at e
  exact⟨e,by unfold I63;omega⟩
 rw[zk g] at h;cases h
theorem mul_R1 {p:Nat} (h:(bif decide (((p / B64:Nat):Int)=0) then decide (((p%B64:Nat):Int)<=9223372036854775807) else false)=true):R64 ((p%B64:Nat):Int):=by
 obtain⟨a,b⟩:=mul_ok h
 rw[a];unfold R64;unfold I63 at b;omega
theorem mul_R2 {p:Nat} (h:(bif decide (((p / B64:Nat):Int)=0) then decide (((p%B64:Nat):Int)<=9223372036854775807) else false)=true):R64 (0-((p%B64:Nat):Int)):=by
 obtain⟨a,b⟩:=mul_ok h
 rw[a];unfold R64;unfold I63 at b;omega
theorem abs_mul (a b:Int):(bif !(decide (a<0)==decide (b<0)) then -((a.natAbs*b.natAbs:Nat):Int) else ((a.natAbs*b.natAbs:Nat):Int))=a*b:=by
 rw[Jx]
 by_cases h:a<0<;>by_cases g:b<0
 ·rw[zl h,zl g,show (a.natAbs:Int)= -a by omega,show (b.natAbs:Int)= -b by omega];simp[K7,K4]
 ·rw[zl h,zk g,show (a.natAbs:Int)= -a by omega,show (b.natAbs:Int)=b by omega];simp[K7,K4]
 ·rw[zk h,zl g,show (a.natAbs:Int)=a by omega,show (b.natAbs:Int)= -b by omega];simp[K7,K4]
 rw[zk h,zk g,show (a.natAbs:Int)=a by omega,show (b.natAbs:Int)=b by omega];simp[K7,K4]
theorem mul_ms {a b:Int} (h:a.natAbs*b.natAbs<I63):jo (a*b)=(a*b,false):=by
 unfold jo
 rw[zk]
 rw[JW];omega
section
variable {a b:Int} {x y:NI}
theorem mul_n {c d:Bool} (h:(bif decide (((a.natAbs*b.natAbs / B64:Nat):Int)=0) then decide (((a.natAbs*b.natAbs%B64:Nat):Int)<=9223372036854775807) else false)=true) (h3:(!(decide (a<0)==decide (b<0)))=true):(DV.pv (.agg [pI (0-((a.natAbs*b.natAbs%B64:Nat):Int)),nilP]))=(nV (kD (a,c) (b,d))):=by
 obtain⟨e,l⟩:=mul_ok h
 have g:=abs_mul a b
 rw[h3,Wy] at g
 have k:kD (a,c) (b,d)=(a*b,false):=mul_ms l
 rw[k,e,Kx,g];rfl
theorem mul_p {c d:Bool} (h:(bif decide (((a.natAbs*b.natAbs / B64:Nat):Int)=0) then decide (((a.natAbs*b.natAbs%B64:Nat):Int)<=9223372036854775807) else false)=true) (h3:(!(decide (a<0)==decide (b<0)))=false):(DV.pv (.agg [pI ((a.natAbs*b.natAbs%B64:Nat):Int),nilP]))=(nV (kD (a,c) (b,d))):=by
 obtain⟨e,l⟩:=mul_ok h
 have g:=abs_mul a b
 rw[h3,Ww] at g
 have k:kD (a,c) (b,d)=(a*b,false):=mul_ms l
 rw[k,e,g];rfl
theorem mul_m {c d:Bool}:(nV (q6 (!(decide (a<0)==decide (b<0))) (a.natAbs*b.natAbs)))=(nV (kD (a,c) (b,d))):=by
 have e:q6 (!(decide (a<0)==decide (b<0))) (a.natAbs*b.natAbs)=kD (a,c) (b,d):=by
  unfold q6
  rw[abs_mul];rfl
 rw[e]
end
theorem w199ss (z1:Int) (z2:Int) (hR1:R64 z1) (hl1:(dig B64 (natAbs z1)).length<=400000) (hR2:R64 z2) (hl2:(dig B64 (natAbs z2)).length<=400000):CKa 133 [.pv (.agg [pI z1,nilP]),.pv (.agg [pI z2,nilP])] (nV (kD (z1,false) (z2,false))):=by
 refine cG qf133 Z (nB Z) Z (E Z (B.bZ Z Z) (E Z (B.run Z) (Et Z Z (B.fadB Z fa97_1 Z) (Et Z Z (B.loadB Z Z Z ag95 sz95 Z) (Et Z Z (B.run Z) (E Z (B.pick Z Z Z Z Z (pick_tt _)) (Cb Z Z (fun h1=>?_) (fun h1=>?_))))))))
 ·have hn1:=nab hR1
  have hn2:=nab hR2
  refine C Z (w254 z1 hR1) Z Z Z (C Z (w254 z2 hR2) Z Z Z (C Z (w253 (natAbs z1) (natAbs z2) aa aa) Z Z Z (Dr Z ae ?_)))
  refine Em Z Z Z Z ?_
  refine Eg Z Z (fun hc=>B.leq (qu Z hc) Z) Z (E Z (B.pA Z Z Z Z Z) (Cb Z Z (fun h2=>?_) (fun h2=>?_)))
  ·refine E Z (B.bnB Z Z un4) (Cb Z Z (fun h3=>?_) (fun h3=>?_))
   ·exact E Z (B.toI Z un237 un3 bF Z) (E Z (B.neg Z bF) (E Z (B.runZ Z (fun l=>Frz.aggZ l Z) Z) (Rt Z (lF Z bG))))
   exact E Z (B.toI Z un237 un3 bF Z) (E Z (B.runZ Z (fun l=>Frz.aggZ l Z) Z) (Rt Z (lF Z bG)))
  exact C Z (w247s z1 hR1) Z Z Z (C Z (w247s z2 hR2) Z Z Z (E Z (B.bnB Z Z un4) (C Z (w255d (natAbs z1) (natAbs z2) aa aa) Z Z Z (C Z (w248 (!((decide (z1<0))==(decide (z2<0)))) ((natAbs z1)*(natAbs z2)) b8) Z Z Z (Rt Z (lF Z bG))))))
 exact Bool.noConfusion (show true=false from h1)
theorem w199sb (z1:Int) (z2 s2:Int) (d2:Nat) (e2:List Nat) (hR1:R64 z1) (hl1:(dig B64 (natAbs z1)).length<=400000) (hd2:dig B64 (natAbs z2)=d2::e2) (hs2:s2=if z2<0 then -1 else 1) (hb2:I63<=natAbs z2) (hl2:(dig B64 (natAbs z2)).length<=400000):CKa 133 [.pv (.agg [pI z1,nilP]),.pv (.agg [pI s2,pL eU (d2::e2)])] (nV (kD (z1,false) (z2,true))):=by
 refine cG qf133 Z (nB Z) Z (E Z (B.bZ Z Z) (E Z (B.run Z) (Et Z Z (B.fadB Z fa97_1 Z) (Et Z Z (B.loadB Z Z Z ag95 sz95 Z) (Et Z Z (B.run Z) (E Z (B.pick Z Z Z Z Z (pick_tt _)) (Cb Z Z (fun h1=>?_) (fun h1=>?_))))))))
 ·exact absurd h1 Xy
 exact C Z (w247s z1 hR1) Z Z Z (C Z (w247b z2 s2 d2 e2 hd2 (sg_of hs2)) Z Z Z (E Z (B.bnB Z Z un4) (C Z (w255d (natAbs z1) (natAbs z2) aa aa) Z Z Z (C Z (w248 (!((decide (z1<0))==(decide (z2<0)))) ((natAbs z1)*(natAbs z2)) b8) Z Z Z (Rt Z (lF Z bG))))))
theorem w199bs (z1 s1:Int) (d1:Nat) (e1:List Nat) (z2:Int) (hd1:dig B64 (natAbs z1)=d1::e1) (hs1:s1=if z1<0 then -1 else 1) (hb1:I63<=natAbs z1) (hl1:(dig B64 (natAbs z1)).length<=400000) (hR2:R64 z2) (hl2:(dig B64 (natAbs z2)).length<=400000):CKa 133 [.pv (.agg [pI s1,pL eU (d1::e1)]),.pv (.agg [pI z2,nilP])] (nV (kD (z1,true) (z2,false))):=by
 exact cG qf133 Z (nB Z) Z (E Z (B.bZ Z Z) (E Z (B.run Z) (Ef' Z Z (Ef' Z Z (Ef' Z Z (E Z (B.pkF Z Z Z Z Z) (CF Z Z (C Z (w247b z1 s1 d1 e1 hd1 (sg_of hs1)) Z Z Z (C Z (w247s z2 hR2) Z Z Z (E Z (B.bnB Z Z un4) (C Z (w255d (natAbs z1) (natAbs z2) aa aa) Z Z Z (C Z (w248 (!((decide (z1<0))==(decide (z2<0)))) ((natAbs z1)*(natAbs z2)) b8) Z Z Z (Rt Z (lF Z bG))))))))))))))
theorem w199bb (z1 s1:Int) (d1:Nat) (e1:List Nat) (z2 s2:Int) (d2:Nat) (e2:List Nat) (hd1:dig B64 (natAbs z1)=d1::e1) (hs1:s1=if z1<0 then -1 else 1) (hb1:I63<=natAbs z1) (hl1:(dig B64 (natAbs z1)).length<=400000) (hd2:dig B64 (natAbs z2)=d2::e2) (hs2:s2=if z2<0 then -1 else 1) (hb2:I63<=natAbs z2) (hl2:(dig B64 (natAbs z2)).length<=400000):CKa 133 [.pv (.agg [pI s1,pL eU (d1::e1)]),.pv (.agg [pI s2,pL eU (d2::e2)])] (nV (kD (z1,true) (z2,true))):=by
 exact cG qf133 Z (nB Z) Z (E Z (B.bZ Z Z) (E Z (B.run Z) (Ef' Z Z (Ef' Z Z (Ef' Z Z (E Z (B.pkF Z Z Z Z Z) (CF Z Z (C Z (w247b z1 s1 d1 e1 hd1 (sg_of hs1)) Z Z Z (C Z (w247b z2 s2 d2 e2 hd2 (sg_of hs2)) Z Z Z (E Z (B.bnB Z Z un4) (C Z (w255d (natAbs z1) (natAbs z2) aa aa) Z Z Z (C Z (w248 (!((decide (z1<0))==(decide (z2<0)))) ((natAbs z1)*(natAbs z2)) b8) Z Z Z (Rt Z (lF Z bG))))))))))))))
theorem w199 (x y:NI) (hx:okI x) (hy:okI y) (hxl:(dig B64 (natAbs x.1)).length<=400000) (hyl:(dig B64 (natAbs y.1)).length<=400000):CKa 133 [.pv (.agg [pI (nH x),(nW x)]),.pv (.agg [pI (nH y),(nW y)])] (.pv (.agg [pI (nH (kD x y)),(nW (kD x y))])):=by
 obtain⟨z1,b1⟩:=x
 obtain⟨z2,b2⟩:=y
 cases b1
 ·cases b2
  ·exact w199ss z1 z2 (ok_R hx) hxl (ok_R hy) hyl
  obtain⟨d2,e2,hd2⟩:=jq (z:=z2) hy
  rw[nW_b hd2]
  exact w199sb z1 z2 _ d2 e2 (ok_R hx) hxl hd2 Z hy hyl
 cases b2
 ·obtain⟨d1,e1,hd1⟩:=jq (z:=z1) hx
  rw[nW_b hd1]
  exact w199bs z1 _ d1 e1 z2 hd1 Z hx hxl (ok_R hy) hyl
 obtain⟨d1,e1,hd1⟩:=jq (z:=z1) hx
 obtain⟨d2,e2,hd2⟩:=jq (z:=z2) hy
 rw[nW_b hd1,nW_b hd2]
 exact w199bb z1 _ d1 e1 z2 _ d2 e2 hd1 Z hx hxl hd2 Z hy hyl
theorem dl_zsub (a b:Int):(dig B64 (a-b).natAbs).length<=(dig B64 a.natAbs).length+(dig B64 b.natAbs).length+1:=by
 refine qd (je qM ?_) (kW a.natAbs b.natAbs)
 exact XI (show (a-b).natAbs<=a.natAbs+b.natAbs by omega) (jB qM _)
theorem cmp_l {a b:Int} (h:a<b):vI (-1)=vI (j8 (a-b)):=by unfold j8;rw[WK aa]
theorem cmp_m {a b:Int} (h:b<a):vI 1=vI (j8 (a-b)):=by unfold j8;rw[WJ aa,WJ aa]
theorem cmp_n {a b:Int} (h:¬a<b) (h2:¬b<a):vI 0=vI (j8 (a-b)):=by unfold j8;rw[WJ aa,WK aa]
theorem cmp_o {x y:NI}:vI (j8 (fst (subI x y)))=vI (j8 (fst x-fst y)):=by rw[subI_1]
theorem ok_of {z:Int} (h:R64 z):okI (z,false):=by unfold okI;unfold R64 at h;simp only[qk,qm];omega
theorem w190ss (z1:Int) (z2:Int) (hR1:R64 z1) (hl1:(dig B64 (natAbs z1)).length<=400000) (hR2:R64 z2) (hl2:(dig B64 (natAbs z2)).length<=400000):CKa 114 [.pv (.agg [pI z1,nilP]),.pv (.agg [pI z2,nilP])] (vI (j8 (fst (z1,false)-fst (z2,false)))):=by
 refine cG qf114 Z (nB Z) Z (E Z (B.run Z) (Et Z Z (B.fadB Z fa97_1 Z) (Et Z Z (B.loadB Z Z Z ag95 sz95 Z) (Et Z Z (B.run Z) (E Z (B.pick Z Z Z Z Z (pick_tt _)) (Cb Z Z (fun h1=>?_) (fun h1=>?_)))))))
 ·refine Cp Z Z (fun h2=>?_) (fun h2=>?_)
  ·exact Rt Z (lF Z bH)
  refine Cp Z Z (fun h3=>?_) (fun h3=>?_)
  ·exact Rt Z (lF Z bH)
  exact Rt Z (lF Z bH)
 exact Bool.noConfusion (show true=false from h1)
theorem w190sb (z1:Int) (z2 s2:Int) (d2:Nat) (e2:List Nat) (hR1:R64 z1) (hl1:(dig B64 (natAbs z1)).length<=400000) (hd2:dig B64 (natAbs z2)=d2::e2) (hs2:s2=if z2<0 then -1 else 1) (hb2:I63<=natAbs z2) (hl2:(dig B64 (natAbs z2)).length<=400000):CKa 114 [.pv (.agg [pI z1,.lit (.slice none 0 0)]),.pv (.agg [pI s2,pL eU (d2::e2)])] (vI (j8 (fst (z1,false)-fst (z2,true)))):=by
 refine cG qf114 Z (nB Z) Z (E Z (B.run Z) (Et Z Z (B.fadB Z fa97_1 Z) (Et Z Z (B.loadB Z Z Z ag95 sz95 Z) (Et Z Z (B.run Z) (E Z (B.pick Z Z Z Z Z (pick_tt _)) (Cb Z Z (fun h1=>?_) (fun h1=>?_)))))))
 ·exact absurd h1 Xy
 exact C Z ((by subst hs2;have:=w246 (z1,false) (z2,true) (ok_of hR1) (show okI (z2,true) from hb2) hl1 hl2;dsimp only[nV,nP,aI] at this;rw[nW_b hd2] at this;exact this)) Z Z Z (C Z (w212 (subI (z1,false) (z2,true)) (subI_ok _ _) fb) Z Z Z (Rt Z (lF Z bH)))
theorem w190bs (z1 s1:Int) (d1:Nat) (e1:List Nat) (z2:Int) (hd1:dig B64 (natAbs z1)=d1::e1) (hs1:s1=if z1<0 then -1 else 1) (hb1:I63<=natAbs z1) (hl1:(dig B64 (natAbs z1)).length<=400000) (hR2:R64 z2) (hl2:(dig B64 (natAbs z2)).length<=400000):CKa 114 [.pv (.agg [pI s1,pL eU (d1::e1)]),.pv (.agg [pI z2,.lit (.slice none 0 0)])] (vI (j8 (fst (z1,true)-fst (z2,false)))):=by
 exact cG qf114 Z (nB Z) Z (E Z (B.run Z) (Ef' Z Z (Ef' Z Z (Ef' Z Z (E Z (B.pkF Z Z Z Z Z) (CF Z Z (C Z ((by subst hs1;have:=w246 (z1,true) (z2,false) (show okI (z1,true) from hb1) (ok_of hR2) hl1 hl2;dsimp only[nV,nP,aI] at this;rw[nW_b hd1] at this;exact this)) Z Z Z (C Z (w212 (subI (z1,true) (z2,false)) (subI_ok _ _) fb) Z Z Z (Rt Z (lF Z bH))))))))))
theorem w190bb (z1 s1:Int) (d1:Nat) (e1:List Nat) (z2 s2:Int) (d2:Nat) (e2:List Nat) (hd1:dig B64 (natAbs z1)=d1::e1) (hs1:s1=if z1<0 then -1 else 1) (hb1:I63<=natAbs z1) (hl1:(dig B64 (natAbs z1)).length<=400000) (hd2:dig B64 (natAbs z2)=d2::e2) (hs2:s2=if z2<0 then -1 else 1) (hb2:I63<=natAbs z2) (hl2:(dig B64 (natAbs z2)).length<=400000):CKa 114 [.pv (.agg [pI s1,pL eU (d1::e1)]),.pv (.agg [pI s2,pL eU (d2::e2)])] (vI (j8 (fst (z1,true)-fst (z2,true)))):=by
 exact cG qf114 Z (nB Z) Z (E Z (B.run Z) (Ef' Z Z (Ef' Z Z (Ef' Z Z (E Z (B.pkF Z Z Z Z Z) (CF Z Z (C Z ((by subst hs1;subst hs2;have:=w246 (z1,true) (z2,true) (show okI (z1,true) from hb1) (show okI (z2,true) from hb2) hl1 hl2;dsimp only[nV,nP,aI] at this;rw[nW_b hd1,nW_b hd2] at this;exact this)) Z Z Z (C Z (w212 (subI (z1,true) (z2,true)) (subI_ok _ _) fb) Z Z Z (Rt Z (lF Z bH))))))))))
theorem w190 (x y:NI) (hx:okI x) (hy:okI y) (hxl:(dig B64 (natAbs x.1)).length<=400000) (hyl:(dig B64 (natAbs y.1)).length<=400000):CKa 114 [.pv (.agg [pI (nH x),(nW x)]),.pv (.agg [pI (nH y),(nW y)])] (vI (j8 (fst x-fst y))):=by
 obtain⟨z1,b1⟩:=x
 obtain⟨z2,b2⟩:=y
 cases b1
 ·cases b2
  ·exact w190ss z1 z2 (ok_R hx) hxl (ok_R hy) hyl
  obtain⟨d2,e2,hd2⟩:=jq (z:=z2) hy
  rw[nW_b hd2]
  exact w190sb z1 z2 _ d2 e2 (ok_R hx) hxl hd2 Z hy hyl
 cases b2
 ·obtain⟨d1,e1,hd1⟩:=jq (z:=z1) hx
  rw[nW_b hd1]
  exact w190bs z1 _ d1 e1 z2 hd1 Z hx hxl (ok_R hy) hyl
 obtain⟨d1,e1,hd1⟩:=jq (z:=z1) hx
 obtain⟨d2,e2,hd2⟩:=jq (z:=z2) hy
 rw[nW_b hd1,nW_b hd2]
 exact w190bb z1 _ d1 e1 z2 _ d2 e2 hd1 Z hx hxl hd2 Z hy hyl
end Go.Lens.Tb
end
section
namespace Go.Lens.Tb
open Go.Proofs Go.Lens.Un
variable [Lz]
attribute [local irreducible] TK PK T RG EfR Body CG
theorem tdm {a b:Int} (hb:0<b):(a.tmod b<0->a / b=a.tdiv b-1/\a%b=a.tmod b+b)/\(¬a.tmod b<0->a / b=a.tdiv b/\a%b=a.tmod b):=by
 have h:=Int.mul_tdiv_add_tmod a b
 have l1:=Xz a hb
 have l2:=Int.tmod_lt_of_pos a hb
 refine⟨fun g=>(Xd hb).2 ⟨?_,aa,aa⟩,fun g=>(Xd hb).2 ⟨aa,aa,aa⟩⟩
 grind
theorem tq_a {a b:Int} (ha:R64 a) (hb:0<b):R64 (a / b):=by
 unfold R64 at*
 by_cases h:0<=a
 ·have:=Js h (by omega:0<=b)
  have:=X8 b h
  omega
 have h1:=Int.ediv_mul_le a (show b≠0 by omega)
 have h2:=Int.lt_ediv_add_one_mul_self a hb
 have h3:a / b<0:=Qr aa hb
 refine⟨?_,aa⟩
 rcases Kq (a / b) a with g|g
 ·exfalso
  have:(a / b+1)*b<=(a / b+1)*1:=Int.mul_le_mul_of_nonpos_left aa aa
  omega
 omega
section
variable {a b:Int} {x y:NI}
theorem tq_S (ha:R64 a) (hb:0<b) (h:a.tmod b<0):R64 (a.tdiv b-1):=by rw[<-((tdm hb).1 h).1];exact tq_a ha hb
theorem tq_R (ha:R64 a) (hb:0<b):R64 (a.tdiv b):=by
 have g:=tq_a ha hb
 by_cases h:a.tmod b<0
 ·have:=((tdm hb).1 h).1
  have h3:a / b<0:=by
   have h1:=Xz a hb
   have h2:=Int.mul_tdiv_add_tmod a b
   have h4:=Jt a (show b≠0 by omega)
   by_cases k:0<=a
   ·grind
   exact Qr aa hb
  unfold R64 at *;omega
 rw[<-((tdm hb).2 h).1];exact g
theorem tq_T (hb:R64 b) (hp:0<b) (h:a.tmod b<0):R64 (a.tmod b+b):=by
 have h1:=Xz a hp
 unfold R64 at *;omega
theorem dm_s (h:(decide (a≠ -9223372036854775808))=true):divI (a,false) (b,false)=(a / b,false)/\modI (a,false) (b,false)=(a%b,false):=by
 have h:=X6 h
 unfold divI modI
 grind
theorem dm_1 (hp:0<b) (h1:(decide (a≠ -9223372036854775808))=true) (h2:a.tmod b<0):(DV.tup [.pv (.agg [pI (a.tdiv b-1),nilP]),.pv (.agg [pI (a.tmod b+b),nilP])])=.tup [nV (divI (a,false) (b,false)),nV (modI (a,false) (b,false))]:=by rw[(dm_s h1).1,(dm_s h1).2,<-((tdm hp).1 h2).1,<-((tdm hp).1 h2).2];rfl
theorem dm_2 (hp:0<b) (h1:(decide (a≠ -9223372036854775808))=true) (h2:¬a.tmod b<0):(DV.tup [.pv (.agg [pI (a.tdiv b),nilP]),.pv (.agg [pI (a.tmod b),nilP])])=.tup [nV (divI (a,false) (b,false)),nV (modI (a,false) (b,false))]:=by rw[(dm_s h1).1,(dm_s h1).2,<-((tdm hp).2 h2).1,<-((tdm hp).2 h2).2];rfl
def dmB (x y:NI):Prop:=divI x y=(bif decide (j8 (q6 (decide (x.1<0)) (x.1.natAbs%y.1.natAbs)).1<0) then subI (q6 (decide (x.1<0)) (x.1.natAbs / y.1.natAbs)) (ofI 1) else q6 (decide (x.1<0)) (x.1.natAbs / y.1.natAbs))/\
 modI x y=(bif decide (j8 (q6 (decide (x.1<0)) (x.1.natAbs%y.1.natAbs)).1<0) then addI (q6 (decide (x.1<0)) (x.1.natAbs%y.1.natAbs)) y else q6 (decide (x.1<0)) (x.1.natAbs%y.1.natAbs))
theorem dmB_ss (h:(decide (a≠ -9223372036854775808))=false):dmB (a,false) (b,false):=by
 have h:a= -9223372036854775808:=by simpa using h
 subst h
 exact⟨rfl,rfl⟩
theorem dmB_b1:dmB (a,true) y:=by
 unfold dmB divI modI
 grind
theorem dmB_b2:dmB x (b,true):=by
 unfold dmB divI modI
 grind
theorem dm_3 (hd:dmB x y) (h:j8 (q6 (decide (x.1<0)) (x.1.natAbs%y.1.natAbs)).1<0):(DV.tup [nV (subI (q6 (decide (x.1<0)) (x.1.natAbs / y.1.natAbs)) (ofI 1)),nV (addI (q6 (decide (x.1<0)) (x.1.natAbs%y.1.natAbs)) y)])=.tup [nV (divI x y),nV (modI x y)]:=by rw[hd.1,hd.2,zl h];rfl
theorem dm_4 (hd:dmB x y) (h:¬j8 (q6 (decide (x.1<0)) (x.1.natAbs%y.1.natAbs)).1<0):(DV.tup [nV (q6 (decide (x.1<0)) (x.1.natAbs / y.1.natAbs)),nV (q6 (decide (x.1<0)) (x.1.natAbs%y.1.natAbs))])=.tup [nV (divI x y),nV (modI x y)]:=by rw[hd.1,hd.2,zk h];rfl
end
theorem dl_div (a b:Nat):(dig B64 (a / b)).length<=(dig B64 a).length:=je qM (XI (JG a b) (jB qM a))
theorem Zu (a b:Nat):(dig B64 (a%b)).length<=(dig B64 a).length:=je qM (XI (Nat.mod_le a b) (jB qM a))
theorem dl_1:(dig B64 (ofI 1).1.natAbs).length<=400000:=by rw[show (ofI 1).1.natAbs=1 from rfl,j7 qM ah ah];decide
theorem kK (s:Bool) (n:Nat):okI (q6 s n):=jN _
theorem j9 (s:Bool) (n:Nat):(q6 s n).1.natAbs=n:=by cases s<;>simp only[q6,jo,Wy,Ww,JX,XA]
attribute [local irreducible] q6 jo subI addI divI modI
theorem w241ss (z1:Int) (z2:Int) (hR1:R64 z1) (hl1:(dig B64 (natAbs z1)).length<=400000) (hR2:R64 z2) (hl2:(dig B64 (natAbs z2)).length<=400000) (hp:0<z2):CKa 175 [.pv (.agg [pI z1,nilP]),.pv (.agg [pI z2,nilP])] (.tup [nV (divI (z1,false) (z2,false)),nV (modI (z1,false) (z2,false))]):=by
 refine cG qf175 Z (nB Z) Z (E Z (B.bZ Z Z) (E Z (B.bZ Z Z) (E Z (B.run Z) (Et Z Z (B.fadB Z fa97_1 Z) (Et Z Z (B.loadB Z Z Z ag95 sz95 Z) (Et Z Z (B.run Z) (E Z (B.pick Z Z Z Z Z (pick_tt _)) (Eg Z Z (fun hc=>B.fadB Z fa97_0 Z) Z (Eg Z Z (fun hc=>B.loadB (qu Z hc) Z Z ag3 sz3 Z) Z (Eg Z Z (fun hc=>B.neq (qu Z hc) Z) Z (E Z (B.pA Z Z Z Z Z) (Cb Z Z (fun h1=>?_) (fun h1=>?_)))))))))))))
 ·refine E Z (B.quo Z Z ⟨aa,bK⟩) (E Z (B.rem Z Z aa) (Dr Z ae (Cp Z Z (fun h2=>?_) (fun h2=>?_))))
  ·exact E Z (B.sub Z Z bK) (E Z (B.add Z Z bK) (Dr Z ae (E Z (B.runZ Z (fun l=>Frz.aggZ l Z) Z) (E Z (B.runZ Z (fun l=>Frz.aggZ l Z) Z) (Rt Z (lF Z (by exact dm_1 hp h1 h2)))))))
  exact E Z (B.runZ Z (fun l=>Frz.aggZ l Z) Z) (E Z (B.runZ Z (fun l=>Frz.aggZ l Z) Z) (Rt Z (lF Z (by exact dm_2 hp h1 h2))))
 refine C Z (w247s z1 hR1) Z Z Z (C Z (w247s z2 hR2) Z Z Z (C Z (w263 (natAbs z1) (natAbs z2) aa aa aa) Z Z Z (C Z (w248 (decide (z1<0)) ((natAbs z1) / (natAbs z2)) bL) Z Z Z (C Z (w248 (decide (z1<0)) ((natAbs z1)%(natAbs z2)) bL) Z Z Z (E Z (B.bZ Z Z) (E Z (B.bZ Z Z) (C Z (w212 (q6 (decide (z1<0)) ((natAbs z1)%(natAbs z2))) (kK _ _) bM) Z Z Z (Cp Z Z (fun h3=>?_) (fun h3=>?_)))))))))
 ·exact C Z (w177 1) Z Z Z (C Z (w246 (q6 (decide (z1<0)) ((natAbs z1) / (natAbs z2))) (ofI 1) (kK _ _) (ofI_ok ah) bO dl_1) Z Z Z (C Z ((w198 (q6 (decide (z1<0)) ((natAbs z1)%(natAbs z2))) (z2,false) (kK _ _) (ok_of hR2) bM hl2)) Z Z Z (Dr Z ae (Dr Z ae (Rt Z (lF Z (by exact dm_3 (x:=(z1,false)) (y:=(z2,false)) (dmB_ss h1) ab)))))))
 exact Dr Z ae (Rt Z (lF Z (by exact dm_4 (x:=(z1,false)) (y:=(z2,false)) (dmB_ss h1) ab)))
theorem w241sb (z1:Int) (z2 s2:Int) (d2:Nat) (e2:List Nat) (hR1:R64 z1) (hl1:(dig B64 (natAbs z1)).length<=400000) (hd2:dig B64 (natAbs z2)=d2::e2) (hs2:s2=if z2<0 then -1 else 1) (hb2:I63<=natAbs z2) (hl2:(dig B64 (natAbs z2)).length<=400000) (hp:0<z2):CKa 175 [.pv (.agg [pI z1,nilP]),.pv (.agg [pI s2,pL eU (d2::e2)])] (.tup [nV (divI (z1,false) (z2,true)),nV (modI (z1,false) (z2,true))]):=by
 refine cG qf175 Z (nB Z) Z (E Z (B.bZ Z Z) (E Z (B.bZ Z Z) (E Z (B.run Z) (Et Z Z (B.fadB Z fa97_1 Z) (Et Z Z (B.loadB Z Z Z ag95 sz95 Z) (Et Z Z (B.run Z) (E Z (B.pick Z Z Z Z Z (pick_tt _)) (Eg Z Z (fun hc=>B.fadB Z fa97_0 Z) Z (Eg Z Z (fun hc=>B.loadB (qu Z hc) Z Z ag3 sz3 Z) Z (Eg Z Z (fun hc=>B.neq (qu Z hc) Z) Z (E Z (B.pA Z Z Z Z Z) (Cb Z Z (fun h1=>?_) (fun h1=>?_)))))))))))))
 ·grind
 refine C Z (w247s z1 hR1) Z Z Z (C Z (w247b z2 s2 d2 e2 hd2 (sg_of hs2)) Z Z Z (C Z (w263 (natAbs z1) (natAbs z2) aa aa aa) Z Z Z (C Z (w248 (decide (z1<0)) ((natAbs z1) / (natAbs z2)) bL) Z Z Z (C Z (w248 (decide (z1<0)) ((natAbs z1)%(natAbs z2)) bL) Z Z Z (E Z (B.bZ Z Z) (E Z (B.bZ Z Z) (C Z (w212 (q6 (decide (z1<0)) ((natAbs z1)%(natAbs z2))) (kK _ _) bM) Z Z Z (Cp Z Z (fun h2=>?_) (fun h2=>?_)))))))))
 ·exact C Z (w177 1) Z Z Z (C Z (w246 (q6 (decide (z1<0)) ((natAbs z1) / (natAbs z2))) (ofI 1) (kK _ _) (ofI_ok ah) bO dl_1) Z Z Z (C Z (fe) Z Z Z (Dr Z ae (Dr Z ae (Rt Z (lF Z (by exact dm_3 (x:=(z1,false)) (y:=(z2,true)) (dmB_b2) ab)))))))
 exact Dr Z ae (Rt Z (lF Z (by exact dm_4 (x:=(z1,false)) (y:=(z2,true)) (dmB_b2) ab)))
theorem w241bs (z1 s1:Int) (d1:Nat) (e1:List Nat) (z2:Int) (hd1:dig B64 (natAbs z1)=d1::e1) (hs1:s1=if z1<0 then -1 else 1) (hb1:I63<=natAbs z1) (hl1:(dig B64 (natAbs z1)).length<=400000) (hR2:R64 z2) (hl2:(dig B64 (natAbs z2)).length<=400000) (hp:0<z2):CKa 175 [.pv (.agg [pI s1,pL eU (d1::e1)]),.pv (.agg [pI z2,nilP])] (.tup [nV (divI (z1,true) (z2,false)),nV (modI (z1,true) (z2,false))]):=by
 refine cG qf175 Z (nB Z) Z (E Z (B.bZ Z Z) (E Z (B.bZ Z Z) (E Z (B.run Z) (Ef' Z Z (Ef' Z Z (Ef' Z Z (E Z (B.pkF Z Z Z Z Z) (Ef' Z Z (Ef' Z Z (Ef' Z Z (E Z (B.pkF Z Z Z Z Z) (CF Z Z (C Z (w247b z1 s1 d1 e1 hd1 (sg_of hs1)) Z Z Z ?_)))))))))))))
 refine C Z (w247s z2 hR2) Z Z Z (C Z (w263 (natAbs z1) (natAbs z2) aa aa aa) Z Z Z (C Z (w248 (decide (z1<0)) ((natAbs z1) / (natAbs z2)) bL) Z Z Z (C Z (w248 (decide (z1<0)) ((natAbs z1)%(natAbs z2)) bL) Z Z Z (E Z (B.bZ Z Z) (E Z (B.bZ Z Z) (C Z (w212 (q6 (decide (z1<0)) ((natAbs z1)%(natAbs z2))) (kK _ _) bM) Z Z Z (Cp Z Z (fun h1=>?_) (fun h1=>?_))))))))
 ·exact C Z (w177 1) Z Z Z (C Z (w246 (q6 (decide (z1<0)) ((natAbs z1) / (natAbs z2))) (ofI 1) (kK _ _) (ofI_ok ah) bO dl_1) Z Z Z (C Z ((w198 (q6 (decide (z1<0)) ((natAbs z1)%(natAbs z2))) (z2,false) (kK _ _) (ok_of hR2) bM hl2)) Z Z Z (Dr Z ae (Dr Z ae (Rt Z (lF Z (by exact dm_3 (x:=(z1,true)) (y:=(z2,false)) (dmB_b1) ab)))))))
 exact Dr Z ae (Rt Z (lF Z (by exact dm_4 (x:=(z1,true)) (y:=(z2,false)) (dmB_b1) ab)))
theorem w241bb (z1 s1:Int) (d1:Nat) (e1:List Nat) (z2 s2:Int) (d2:Nat) (e2:List Nat) (hd1:dig B64 (natAbs z1)=d1::e1) (hs1:s1=if z1<0 then -1 else 1) (hb1:I63<=natAbs z1) (hl1:(dig B64 (natAbs z1)).length<=400000) (hd2:dig B64 (natAbs z2)=d2::e2) (hs2:s2=if z2<0 then -1 else 1) (hb2:I63<=natAbs z2) (hl2:(dig B64 (natAbs z2)).length<=400000) (hp:0<z2):CKa 175 [.pv (.agg [pI s1,pL eU (d1::e1)]),.pv (.agg [pI s2,pL eU (d2::e2)])] (.tup [nV (divI (z1,true) (z2,true)),nV (modI (z1,true) (z2,true))]):=by
 refine cG qf175 Z (nB Z) Z (E Z (B.bZ Z Z) (E Z (B.bZ Z Z) (E Z (B.run Z) (Ef' Z Z (Ef' Z Z (Ef' Z Z (E Z (B.pkF Z Z Z Z Z) (Ef' Z Z (Ef' Z Z (Ef' Z Z (E Z (B.pkF Z Z Z Z Z) (CF Z Z (C Z (w247b z1 s1 d1 e1 hd1 (sg_of hs1)) Z Z Z ?_)))))))))))))
 refine C Z (w247b z2 s2 d2 e2 hd2 (sg_of hs2)) Z Z Z (C Z (w263 (natAbs z1) (natAbs z2) aa aa aa) Z Z Z (C Z (w248 (decide (z1<0)) ((natAbs z1) / (natAbs z2)) bL) Z Z Z (C Z (w248 (decide (z1<0)) ((natAbs z1)%(natAbs z2)) bL) Z Z Z (E Z (B.bZ Z Z) (E Z (B.bZ Z Z) (C Z (w212 (q6 (decide (z1<0)) ((natAbs z1)%(natAbs z2))) (kK _ _) bM) Z Z Z (Cp Z Z (fun h1=>?_) (fun h1=>?_))))))))
 ·exact C Z (w177 1) Z Z Z (C Z (w246 (q6 (decide (z1<0)) ((natAbs z1) / (natAbs z2))) (ofI 1) (kK _ _) (ofI_ok ah) bO dl_1) Z Z Z (C Z (fe) Z Z Z (Dr Z ae (Dr Z ae (Rt Z (lF Z (by exact dm_3 (x:=(z1,true)) (y:=(z2,true)) (dmB_b1) ab)))))))
 exact Dr Z ae (Rt Z (lF Z (by exact dm_4 (x:=(z1,true)) (y:=(z2,true)) (dmB_b1) ab)))
theorem w241 (x y:NI) (hx:okI x) (hy:okI y) (hxl:(dig B64 (natAbs x.1)).length<=400000) (hyl:(dig B64 (natAbs y.1)).length<=400000) (hp:0<y.1):CKa 175 [.pv (.agg [pI (nH x),(nW x)]),.pv (.agg [pI (nH y),(nW y)])] (.tup [.pv (.agg [pI (nH (divI x y)),(nW (divI x y))]),.pv (.agg [pI (nH (modI x y)),(nW (modI x y))])]):=by
 obtain⟨z1,b1⟩:=x
 obtain⟨z2,b2⟩:=y
 cases b1
 ·cases b2
  ·exact w241ss z1 z2 (ok_R hx) hxl (ok_R hy) hyl hp
  obtain⟨d2,e2,hd2⟩:=jq (z:=z2) hy
  rw[nW_b hd2]
  exact w241sb z1 z2 _ d2 e2 (ok_R hx) hxl hd2 Z hy hyl hp
 cases b2
 ·obtain⟨d1,e1,hd1⟩:=jq (z:=z1) hx
  rw[nW_b hd1]
  exact w241bs z1 _ d1 e1 z2 hd1 Z hx hxl (ok_R hy) hyl hp
 obtain⟨d1,e1,hd1⟩:=jq (z:=z1) hx
 obtain⟨d2,e2,hd2⟩:=jq (z:=z2) hy
 rw[nW_b hd1,nW_b hd2]
 exact w241bb z1 _ d1 e1 z2 _ d2 e2 hd1 Z hx hxl hd2 Z hy hyl hp
end Go.Lens.Tb
end
section
namespace Go.Lens.Tb
open Go.Proofs Go.Lens.Un
variable [Lz]
attribute [local irreducible] TK PK T RG EfR Body CG
section
variable {x y:NI}
theorem qn_1 (h:j8 y.1<0):0<(negI y).1:=by have:=Zy.1 h;rw[kS];omega
theorem qn_2 (h0:y.1≠0) (h:¬j8 y.1<0):0<y.1:=by
 have:¬y.1<0:=fun g=>h (Zy.2 g)
 omega
theorem qn_3 (h:j8 y.1<0):(nV (divI (negI x) (negI y)))=(nV (quoI x y)):=by
 unfold quoI;rw[WK (Zy.1 h)]
theorem qn_4 (h:¬j8 y.1<0):(nV (divI x y))=(nV (quoI x y)):=by
 unfold quoI;rw[WJ (fun g=>h (Zy.2 g))]
def GcI (G:Nat) (a b:NI):Prop:=okI a/\okI b/\0<=a.1/\0<=b.1/\gcd a.1.natAbs b.1.natAbs=G/\(dig B64 a.1.natAbs).length<=400000/\(dig B64 b.1.natAbs).length<=400000
theorem gc_init (hx:okI x) (hy:okI y) (hxl:(dig B64 x.1.natAbs).length<=400000) (hyl:(dig B64 y.1.natAbs).length<=400000):GcI (gcd x.1.natAbs y.1.natAbs) (absI x) (absI y):=by
 unfold GcI
 rw[absI_1,absI_1,XA,XA]
 exact⟨absI_ok hx,absI_ok hy,aa,aa,rfl,hxl,hyl⟩
variable {G:Nat} {a b:NI}
theorem sgn_0 {z:Int}:j8 z=0↔z=0:=by
 unfold j8
 split
 ·simp;omega
 split<;>simp<;>assumption
theorem gc_pos (h:GcI G a b) (h1:j8 b.1≠0):0<b.1:=by
 have:=h.2.2.2.1
 have:b.1≠0:=fun e=>h1 (sgn_0.2 e)
 omega
theorem gc_mod (h:GcI G a b) (h1:j8 b.1≠0):(modI a b).1.natAbs=a.1.natAbs%b.1.natAbs:=by
 rw[modI_1 (gc_pos h h1),Int.natAbs_emod_of_nonneg h.2.2.1]
theorem gc_step (h:GcI G a b) (h1:j8 b.1≠0):GcI G b (modI a b):=by
 have hp:=gc_pos h h1
 have e:=gc_mod h h1
 unfold GcI
 rw[e]
 refine⟨h.2.1,(dm_ok h.1 h.2.1 hp).2,h.2.2.2.1,?_,?_,h.2.2.2.2.2.2,qd (Zu _ _) h.2.2.2.2.2.1⟩
 ·rw[modI_1 hp];exact Jt _ aa
 rw[<-h.2.2.2.2.1,KF b.1.natAbs,<-Nat.gcd_rec,KF]
theorem gc_m (h:GcI G a b) (h1:j8 b.1≠0):(modI a b).1.natAbs<b.1.natAbs:=by
 rw[gc_mod h h1];exact Wu _ (by have:=gc_pos h h1;omega)
theorem gc_end (h:GcI G a b) (h1:¬j8 b.1≠0):jo (G:Int)=a:=by
 have e:b.1=0:=sgn_0.1 (zi.1 h1)
 have h2:=h.2.2.2.2.1
 rw[e,Jv,XH] at h2
 rw[okI_nn h.1 h.2.2.1,<-h2]
 congr 1
 have:=h.2.2.1
 omega
end
theorem w230 (x y:NI) (hx:okI x) (hy:okI y) (hxl:(dig B64 (natAbs x.1)).length<=400000) (hyl:(dig B64 (natAbs y.1)).length<=400000) (h0:y.1≠0):CKa 194 [nV x,nV y] (nV (quoI x y)):=by
 refine cG qf194 Z (nB Z) Z (E Z (B.bZ Z Z) (C Z (w212 y ab aa) Z Z Z (Cp Z Z (fun h1=>?_) (fun h1=>?_))))
 ·exact C Z (w192 x ab ab) Z Z Z (C Z (w192 y ab ab) Z Z Z (Dr Z ae (C Z (w241 (negI x) (negI y) (ZA hx) (ZA hy) (by rw[kS,JX];exact hxl) (by rw[kS,JX];exact hyl) (qn_1 h1)) Z Z Z (E Z (B.bZ Z Z) (E Z (B.bZ Z Z) (Rt Z (lF Z bP)))))))
 exact C Z (w241 x y hx hy hxl hyl (qn_2 h0 h1)) Z Z Z (E Z (B.bZ Z Z) (E Z (B.bZ Z Z) (Rt Z (lF Z bP))))
theorem w188 (x y:NI) (hx:okI x) (hy:okI y) (hxl:(dig B64 (natAbs x.1)).length<=400000) (hyl:(dig B64 (natAbs y.1)).length<=400000):CKa 112 [nV x,nV y] (nV (jo (((gcd (natAbs x.1) (natAbs y.1)):Nat):Int))):=by
 refine cG qf112 Z (nB Z) Z (E Z (B.bZ Z Z) (C Z (w240 x hx hxl) Z Z Z (C Z (w240 y hy hyl) Z Z Z (Dr Z ae (l2 (fun (a:NI) (b:NI)=>[(2,.bref 3 0),(3,.bref 4 0),(4,.bref 5 0)]) (fun a b=>[(3,.box 97 (bI a)),(4,.box 97 (bI b)),(5,.box 97 [vI 0,.pv (nilP)])]) (fun a b=>GcI (gcd (natAbs x.1) (natAbs y.1)) a b) (fun _ b=>natAbs b.1) (absI x) (absI y) Z ?_ (sb Z Z Z) ?_)))))
 · exact gc_init hx hy hxl hyl
 intro a b hI0
 refine C Z (w212 b hI0.2.1 (qd hI0.2.2.2.2.2.2 ah)) Z Z Z (Cp Z Z (fun h1=>?_) (fun h1=>?_))
 ·refine C Z (w241 a b hI0.1 hI0.2.1 hI0.2.2.2.2.2.1 hI0.2.2.2.2.2.2 (gc_pos hI0 h1)) Z Z Z (E Z (B.bZ Z Z) (E Z (B.bZ Z Z) (Dr Z ae (pk Z (L2 b (modI a b) ?_ ?_ (sb Z Z Z))))))
  · exact gc_step hI0 h1
  · exact gc_m hI0 h1
 exact Rt Z (lF Z (by rw[gc_end hI0 h1]))
end Go.Lens.Tb
end
section
namespace Go.Lens
variable [Lz]
section
variable {P:Program} {Y:Tab} [qH P Y] {nb:Nat} {s:St} {dst:Option Tmp} {ty u:TypeId} {pos:String} {af:Array Edge} {gd:Option (Nat×Bool)} {t:TypeId} {x y z:Operand} {n:Nat} {b:Int}
theorem B.andN1 (hx:ev1 s x=lit (.int .i64 (n:Int))) (hy:ev1 s y=lit (.int .i64 1)) (h:(n:Int)<9223372036854775808):Body P Y nb s ⟨dst,.binOp .and t x y u,ty,pos,af,gd⟩ (lit (.int .i64 (((n%2:Nat):Nat):Int))) [] []:=by
 refine B.bin hx hy ?_
 show qE (some (true,lit (.int .i64 (IntKind.wrap .i64 ((BitVec.ofInt 64 n &&&BitVec.ofInt 64 1).toNat:Nat)))))=_
 have e1:(BitVec.ofInt 64 1).toNat=2 ^ 1-1:=ah
 rw[BitVec.toNat_and,bv_nat aa,e1,Qj,wrap_i64]
 have:wr64 (((n%2 ^ 1:Nat):Nat):Int)=((n%2:Nat):Int):=by
  unfold wr64
  omega
 rw[this];rfl
theorem B.shrN {k:IntKind} {K:Nat} (hx:ev1 s x=lit (.int .i64 (n:Int))) (hy:ev1 s y=lit (.int k b)) (hb:0<=b) (hK:(2:Int) ^ (Min.min b.toNat 64)=K) (h:0<K):Body P Y nb s ⟨dst,.binOp .shr t x y u,ty,pos,af,gd⟩ (lit (.int .i64 (((n / K:Nat):Nat):Int))) [] []:=by
 refine B.bin hx hy ?_
 show qE (some (decide (0<=b),lit (.int .i64 (Int.fdiv n (2 ^ (Min.min b.toNat 64))))))=_
 rw[zl hb,hK,Qs _ aa];rfl
end
end Go.Lens
end
section
namespace Go.Lens.Tb
open Go.Proofs Go.Lens.Un
variable [Lz]
attribute [local irreducible] TK PK T RG EfR Body CG
theorem bt_g (m k:Nat):(dig B64 m).getD k 0<B64:=(jc qM m).get ah k
theorem bt_b {x:Nat} (h:x<B64):q9 x<=64:=by
 rcases KJ 64 (q9 x) with g|g
 ·exfalso
  have h0:x≠0:=by intro e;subst e;exact absurd g ah
  have h1:=blen_le h0
  have h2:=Xj (show 0<2 by decide) (show 64<=q9 x-1 by omega)
  have:(2:Nat) ^ 64=B64:=ah
  omega
 exact g
theorem bt_s {m n:Nat} (hl:(dig B64 m).length=n+1):q9 m=64*n+q9 ((dig B64 m).getD n 0):=by
 have hv:=kh (β:=B64) hl
 have h1:=nz_pos qM (nz_dig qM m) (by intro e;rw[e] at hl;cases hl)
 have h2:=jR ((jc qM m).take n)
 rw[qO qM] at hv h1
 rw[zn,hl,JK aa] at h2
 rw[hl,XF] at h1
 have e:B64 ^ n=2 ^ (64*n):=by rw[Wi]
 rw[e] at h1 h2 hv
 have hp:=Wj (n:=64*n) (show 0<2 by decide)
 have hq:m / 2 ^ (64*n)=(dig B64 m).getD n 0:=by
  have hw:=WD (· / 2 ^ (64*n)) hv
  rw[hw,Xf _ _ hp,Ji h2,KT]
 rw[blen_shift h1,hq]
theorem bt_0 {m:Nat} (h:(((dig B64 m).length:Nat):Int)=0):vI 0=vI (((q9 m:Nat)):Int):=by
 have:m=0:=dig_nil qM (QS.1 aa)
 subst this;rfl
theorem bt_1 {m:Nat} (h:¬(((dig B64 m).length:Nat):Int)=0):vI ((64*((((dig B64 m).length:Nat):Int)-1))+(((q9 (getD (dig B64 m) ((dig B64 m).length-1) 0)):Nat):Int))=vI (((q9 m:Nat)):Int):=by
 rw[bt_s (m:=m) (n:=(dig B64 m).length-1) aa]
 congr 3
 omega
theorem pw_0 {x o a:NI} {k j:Nat} (h:PwI x k j o a) (hj:j=0):PwI x k 0 o a:=hj▸h
theorem w245 (x:NI) (k:Nat) (hx:okI x) (hxl:(dig B64 (natAbs x.1)).length<=400000) (hkl:k*(dig B64 (natAbs x.1)).length<=399999) (hk:k<9223372036854775808):CKa 179 [nV x,vI (k:Int)] (nV (jo (x.1 ^ k))):=by
 refine cG qf179 Z (nB Z) Z (E Z (B.bZ Z Z) (C Z (w177 1) Z Z Z (E Z (B.bZ Z Z) (l3 (fun (j:Nat) (o:NI) (a:NI)=>[(1,vI (j:Int)),(2,.bref 3 0),(4,.bref 5 0),(5,.bref 6 0)]) (fun _ o a=>[(3,.box 97 (bI a)),(5,.box 97 [vI 0,.pv (nilP)]),(6,.box 97 (bI o))]) (fun j o a=>PwI x k j o a/\j<=k) (fun j _ _=>j) k (ofI 1) x Z ?_ (sb Z Z Z) ?_))))
 · exact⟨pw_init hx hxl,zB _⟩
 intro j o a hI0
 have hjk:=hI0.2
 replace hI0:=hI0.1
 refine Cp Z Z (fun h1=>?_) (fun h1=>?_)
 ·refine E Z (B.andN1 Z Z aa) (Cp Z Z (fun h2=>?_) (fun h2=>?_))
  ·refine C Z (w199 o a hI0.2.2.2.1 hI0.1 hI0.2.2.1 hI0.2.1) Z Z Z (Cp Z Z (fun h3=>?_) (fun h3=>?_))
   ·refine C Z (w199 a a hI0.1 hI0.1 hI0.2.1 hI0.2.1) Z Z Z (E Z (B.shrN (K:=2) Z Z ah ah ah) (pk Z (L3 (j / 2) (kD o a) (kD a a) ?_ ?_ (sb Z Z Z))))
    · (refine⟨?_,aa⟩;have hn:=pw_next hI0 hkl aa;first|rwa [WK (c:=((j%2:Nat):Int)=1) ab,WK (c:=(1:Int)<(j:Int)) ab] at hn|rwa [WK (c:=((j%2:Nat):Int)=1) ab,WJ (c:=(1:Int)<(j:Int)) ab] at hn|rwa [WJ (c:=((j%2:Nat):Int)=1) ab,WK (c:=(1:Int)<(j:Int)) ab] at hn|rwa [WJ (c:=((j%2:Nat):Int)=1) ab,WJ (c:=(1:Int)<(j:Int)) ab] at hn)
    · omega
   refine E Z (B.shrN (K:=2) Z Z ah ah ah) (pk Z (L3 (j / 2) (kD o a) a ?_ ?_ (sb Z Z Z)))
   · (refine⟨?_,aa⟩;have hn:=pw_next hI0 hkl aa;first|rwa [WK (c:=((j%2:Nat):Int)=1) ab,WK (c:=(1:Int)<(j:Int)) ab] at hn|rwa [WK (c:=((j%2:Nat):Int)=1) ab,WJ (c:=(1:Int)<(j:Int)) ab] at hn|rwa [WJ (c:=((j%2:Nat):Int)=1) ab,WK (c:=(1:Int)<(j:Int)) ab] at hn|rwa [WJ (c:=((j%2:Nat):Int)=1) ab,WJ (c:=(1:Int)<(j:Int)) ab] at hn)
   · omega
  refine Cp Z Z (fun h4=>?_) (fun h4=>?_)
  ·refine C Z (w199 a a hI0.1 hI0.1 hI0.2.1 hI0.2.1) Z Z Z (E Z (B.shrN (K:=2) Z Z ah ah ah) (pk Z (L3 (j / 2) o (kD a a) ?_ ?_ (sb Z Z Z))))
   · (refine⟨?_,aa⟩;have hn:=pw_next hI0 hkl aa;first|rwa [WK (c:=((j%2:Nat):Int)=1) ab,WK (c:=(1:Int)<(j:Int)) ab] at hn|rwa [WK (c:=((j%2:Nat):Int)=1) ab,WJ (c:=(1:Int)<(j:Int)) ab] at hn|rwa [WJ (c:=((j%2:Nat):Int)=1) ab,WK (c:=(1:Int)<(j:Int)) ab] at hn|rwa [WJ (c:=((j%2:Nat):Int)=1) ab,WJ (c:=(1:Int)<(j:Int)) ab] at hn)
   · omega
  refine E Z (B.shrN (K:=2) Z Z ah ah ah) (pk Z (L3 (j / 2) o a ?_ ?_ (sb Z Z Z)))
  · (refine⟨?_,aa⟩;have hn:=pw_next hI0 hkl aa;first|rwa [WK (c:=((j%2:Nat):Int)=1) ab,WK (c:=(1:Int)<(j:Int)) ab] at hn|rwa [WK (c:=((j%2:Nat):Int)=1) ab,WJ (c:=(1:Int)<(j:Int)) ab] at hn|rwa [WJ (c:=((j%2:Nat):Int)=1) ab,WK (c:=(1:Int)<(j:Int)) ab] at hn|rwa [WJ (c:=((j%2:Nat):Int)=1) ab,WJ (c:=(1:Int)<(j:Int)) ab] at hn)
  · omega
 exact Rt Z (lF Z (by rw[pw_end (pw_0 hI0 aa)]))
theorem w275 (x:NI) (hx:okI x) (hxl:(dig B64 (natAbs x.1)).length<=400000):CKa 219 [nV x] (vI (((q9 (natAbs x.1)):Nat):Int)):=by
 refine cG qf219 Z (nB Z) Z (C Z (w247 x (by first|assumption|omega)) Z Z Z (E Z (B.ju Z jg) (Cp Z Z (fun h1=>?_) (fun h1=>?_))))
 ·exact Rt Z (lF Z bQ)
 have hbg:=bt_g (natAbs x.1) ((dig B64 (natAbs x.1)).length-1)
 have hbb:=bt_b hbg
 exact E Z (B.ju Z jg) (E Z (B.sub Z Z bg) (E Z (B.mul Z Z bg) (E Z (B.ju Z jg) (E Z (B.sub Z Z bg) (E Z (B.idx (z:=0) (i:=((dig B64 (natAbs (x).1)).length-1)) Z Z jg qN (fun _=>rfl) aa aa) (C Z (w309 (getD (dig B64 (natAbs (x).1)) ((dig B64 (natAbs (x).1)).length-1) 0) aa) Z Z Z (E Z (B.add Z Z bg) (Rt Z (lF Z bQ)))))))))
def jW (s p:Nb):Bool:=decide (p.length<=s.length)&&decide (s.take p.length=p)
def qC (s p:Nb):Nb:=bif jW s p then s.drop p.length else s
section
variable {s p:Nb}
theorem rp_3 {k:Nat} {p:Prop} (h:(bif decide ((0:Int)<((0:Nat):Int)) then true else decide ((9223372036854775807:Int)<(k:Int)))=true) (hk:k<=18):p:=by
 rw[zk (show ¬(9223372036854775807:Int)<(k:Int) by omega)] at h;cases h
theorem rp_4 {b:Bool} {s:Nb} {p:Prop} (hs:jW s [48]=false) (h:(bif b then jW s [48] else false)=true):p:=by
 rw[hs] at h;cases b<;>cases h
theorem rp_5 {k:Nat} {s:Nb} {p:Prop} (hs:jW s [48]=true) (h:(bif decide (((k:Nat):Int)<=64) then jW s [48] else false)=false) (hk:k<=18):p:=by
 rw[hs,zl aa] at h;cases h
theorem rp_0 {k:Nat} (h:(k:Int)=0):([]:Nb)=replicate k 48:=by
 have:k=0:=aa
 subst this;rfl
theorem rp_1 {k:Nat} (h:(k:Int)=1):([48]:Nb)=replicate k 48:=by
 have:k=1:=aa
 subst this;rfl
theorem rp_2 {k:Nat} (h:k<=18):take k ([48,48,48,48,48,48,48,48,48,48,48,48,48,48,48,48,48,48,48,48,48,48,48,48,48,48,48,48,48,48,48,48,48,48,48,48,48,48,48,48,48,48,48,48,48,48,48,48,48,48,48,48,48,48,48,48,48,48,48,48,48,48,48,48]:Nb)=replicate k 48:=by
 have e:([48,48,48,48,48,48,48,48,48,48,48,48,48,48,48,48,48,48,48,48,48,48,48,48,48,48,48,48,48,48,48,48,48,48,48,48,48,48,48,48,48,48,48,48,48,48,48,48,48,48,48,48,48,48,48,48,48,48,48,48,48,48,48,48]:Nb)=replicate 64 48:=ah
 rw[e,List.take_replicate,JK aa]
theorem hp_l (h:jW s p=true):p.length<=s.length:=by
 unfold jW at h
 simp only[zj,zf] at h
 exact h.1
theorem hp_m (h:(!(jW s p))=false):p.length<=s.length:=hp_l ai
theorem hp_1:(bif (decide (((p.length:Nat):Int)<=(s.length:Int))) then (decide ((take (p.length) s)=p)) else false)=jW s p:=by
 unfold jW
 rw[show decide (((p.length:Nat):Int)<=(s.length:Int))=decide (p.length<=s.length) from Jq.2 aa]
 cases decide (p.length<=s.length)<;>rfl
theorem hp_2 (h:jW s p=true):drop (p.length) s=qC s p:=by unfold qC;rw[h];rfl
theorem hp_3 (h:jW s p=false):s=qC s p:=by unfold qC;rw[h];rfl
theorem hp_4 (h:(!(jW s p))=true):s=qC s p:=hp_3 ai
theorem hp_5 (h:(!(jW s p))=false):drop (p.length) s=qC s p:=hp_2 ai
theorem hp_6 (h:(!(jW s p))=true):false=jW s p:=by simpa using h.symm
theorem hp_7 (h:(!(jW s p))=false):true=jW s p:=by simpa using h.symm
end
theorem w228k_ (k:Nat) (hk:k<B64):1*k / B64=0/\1*k%B64=k:=by rw[Wg];exact⟨Ji hk,Jm hk⟩
theorem w276 (s p:Nb) (hs:s.length<=1000000000) (hp:p.length<=1000000000):CKa 206 [vS (bsO s),vS (bsO p)] (vB (jW s p)):=by
 refine cG qf206 Z (nB Z) Z (E Z (B.ZM Z un9) (E Z (B.ZM Z un9) ?_))
 refine Em Z Z Z Z ?_
 refine Em Z Z Z Z ?_
 refine Eg Z Z (fun hc=>B.ZM (qu Z hc) un9) Z (Eg Z Z (fun hc=>B.slHB (qu Z hc) (qu Z hc) un9 Z bR) Z ?_)
 refine Em Z Z Z Z ?_
 exact Eg Z Z (fun hc=>B.seqB (qu Z hc) (qu Z hc)) Z (E Z (B.pA Z Z Z Z Z) (Rt Z (lF Z (lb (by exact hp_1)))))
theorem w242 (s p:Nb) (hs:s.length<=1000000000) (hp:p.length<=1000000000):CKa 176 [vS (bsO s),vS (bsO p)] (vB (jW s p)):=by
 exact cG qf176 Z (nB Z) Z (C Z (w276 s p hs hp) Z Z Z (Rt Z (leaf Z Z)))
theorem w285 (s p:Nb) (hs:s.length<=1000000000) (hp:p.length<=1000000000):CKa 216 [vS (bsO s),vS (bsO p)] (vS (bsO (qC s p))):=by
 refine cG qf216 Z (nB Z) Z (C Z (w276 s p hs hp) Z Z Z (Cb Z Z (fun h1=>?_) (fun h1=>?_)))
 ·exact E Z (B.ZM Z un9) (E Z (B.slLB Z Z un9 Z bR) (Rt Z (lF Z (ls bS))))
 exact Rt Z (lF Z (ls bS))
theorem w243 (s p:Nb) (hs:s.length<=1000000000) (hp:p.length<=1000000000):CKa 177 [vS (bsO s),vS (bsO p)] (vS (bsO (qC s p))):=by
 exact cG qf177 Z (nB Z) Z (C Z (w285 s p hs hp) Z Z Z (Rt Z (leaf Z Z)))
theorem w237 (s p:Nb) (hs:s.length<=1000000000) (hp:p.length<=1000000000):CKa 171 [vS (bsO s),vS (bsO p)] (.tup [vS (bsO (qC s p)),vB (jW s p)]):=by
 refine cG qf171 Z (nB Z) Z (C Z (w276 s p hs hp) Z Z Z (Cb Z Z (fun h1=>?_) (fun h1=>?_)))
 ·exact Rt Z (lF Z (ZF (ls bT) (lb bT)))
 exact E Z (B.ZM Z un9) (E Z (B.slLB Z Z un9 Z bR) (Rt Z (lF Z (ZF (ls bT) (lb bT)))))
theorem w183 (s p:Nb) (hs:s.length<=1000000000) (hp:p.length<=1000000000):CKa 107 [vS (bsO s),vS (bsO p)] (.tup [vS (bsO (qC s p)),vB (jW s p)]):=by
 exact cG qf107 Z (nB Z) Z (C Z (w237 s p hs hp) Z Z Z (Rt Z (leaf Z Z)))
theorem w228 (k:Nat) (hk:k<B64):CKa 253 [WM ((1:Nat):Int),WM (k:Int)] (.tup [WM (((1*k / B64):Nat):Int),WM (((1*k%B64):Nat):Int)]):=by
 exact cG qf253 Z (nB Z) Z (CF Z Z (C Z (w253 1 k ah aa) Z Z Z (Rt Z (leaf Z Z))))
theorem w228k (k:Nat) (hk:k<B64):CKa 253 [WM ((1:Nat):Int),WM (k:Int)] (.tup [WM ((0:Nat):Int),WM (k:Int)]):=by
 have:=w228 k hk
 rwa [(w228k_ k hk).1,(w228k_ k hk).2] at this
theorem w265 (k:Nat) (hk:k<=18):CKa 222 [vS (bsO [48]),vI (k:Int)] (vS (bsO (replicate k 48))):=by
 refine cG qf222 Z (nB Z) Z (Cp Z Z (fun h1=>?_) (fun h1=>?_))
 ·exact Rt Z (lF Z (ls bU))
 refine Cp Z Z (fun h2=>?_) (fun h2=>?_)
 ·exact Rt Z (lF Z (ls bU))
 refine Cp Z Z (fun h3=>?_) (fun h3=>?_)
 ·omega
 refine E Z (B.lenB1 Z un9) (E Z (B.toUN (n:=1) Z un3 un261 bV Z) (E Z (B.toUN (n:=k) Z un3 un261 bV Z) (C Z (w228k k (XI hk ah)) Z Z Z ?_)))
 refine Em Z Z Z Z ?_
 refine Eg Z Z (fun hc=>B.gtr (qu Z hc) Z) Z (E Z (B.pO Z Z Z Z Z) (Cb Z Z (fun h4=>?_) (fun h4=>?_)))
 ·exact rp_3 h4 hk
 refine E Z (B.toI Z un261 un3 bg Z) (E Z (B.lenB1 Z un9) (CF Z Z (E Z (B.sidx Z Z un9 Z (show 0<List.length [48] from bV)) (CF Z Z (CF Z Z (CT Z Z (CT Z Z ?_)))))))
 refine Em Z Z Z Z ?_
 refine Eg Z Z (fun hc=>B.call (w242 [32,32,32,32,32,32,32,32,32,32,32,32,32,32,32,32,32,32,32,32,32,32,32,32,32,32,32,32,32,32,32,32,32,32,32,32,32,32,32,32,32,32,32,32,32,32,32,32,32,32,32,32,32,32,32,32,32,32,32,32,32,32,32,32,32,32,32,32,32,32,32,32,32,32,32,32,32,32,32,32,32,32,32,32,32,32,32,32,32,32,32,32,32,32,32,32,32,32,32,32,32,32,32,32,32,32,32,32,32,32,32,32,32,32,32,32,32,32,32,32,32,32,32,32,32,32,32,32] [48] ah ah) Z (ds2 Z (qu Z hc)) Z) Z (E Z (B.pA Z Z Z Z Z) (Cb Z Z (fun h5=>?_) (fun h5=>?_)))
 ·exact rp_4 ah h5
 refine Em Z Z Z Z ?_
 refine Eg Z Z (fun hc=>B.call (w242 [45,45,45,45,45,45,45,45,45,45,45,45,45,45,45,45,45,45,45,45,45,45,45,45,45,45,45,45,45,45,45,45,45,45,45,45,45,45,45,45,45,45,45,45,45,45,45,45,45,45,45,45,45,45,45,45,45,45,45,45,45,45,45,45,45,45,45,45,45,45,45,45,45,45,45,45,45,45,45,45,45,45,45,45,45,45,45,45,45,45,45,45,45,45,45,45,45,45,45,45,45,45,45,45,45,45,45,45,45,45,45,45,45,45,45,45,45,45,45,45,45,45,45,45,45,45,45,45] [48] ah ah) Z (ds2 Z (qu Z hc)) Z) Z (E Z (B.pA Z Z Z Z Z) (Cb Z Z (fun h6=>?_) (fun h6=>?_)))
 ·exact rp_4 ah h6
 refine Em Z Z Z Z ?_
 refine Eg Z Z (fun hc=>B.call (w242 [48,48,48,48,48,48,48,48,48,48,48,48,48,48,48,48,48,48,48,48,48,48,48,48,48,48,48,48,48,48,48,48,48,48,48,48,48,48,48,48,48,48,48,48,48,48,48,48,48,48,48,48,48,48,48,48,48,48,48,48,48,48,48,48] [48] ah ah) Z (ds2 Z (qu Z hc)) Z) Z (E Z (B.pA Z Z Z Z Z) (Cb Z Z (fun h7=>?_) (fun h7=>?_)))
 ·exact E Z (B.slHB Z Z un9 Z bV) (Rt Z (lF Z (ls bU)))
 exact rp_5 ah h7 hk
end Go.Lens.Tb
end
section
namespace Go.Proofs
open Go.Shelf
def Tryz.laysM171_ren:Go.Shelf.Ren:=⟨fun|171=>220|243=>251|246=>274|283=>275|284=>276|285=>277|286=>278|129=>250|317=>291|318=>292|319=>293|320=>294|337=>297|338=>298|n=>n,fun|3=>3|9=>9|2=>2|4=>4|171=>313|0=>0|53=>237|37=>266|5=>5|173=>315|212=>336|51=>302|20=>20|213=>337|46=>261|232=>342|233=>343|n=>n,fun|17=>8|18=>9|19=>10|n=>n⟩
theorem Tryz.laysM171:Go.Proofs.LaysM.n171 prog Tryz.laysM171_ren:={
  mixed:=ae
  f129:=Tryz.func250.trans (WD some ae)
  f171:=Tryz.func220.trans (WD some ae)
  f243:=Tryz.func251.trans (WD some ae)
  f246:=Tryz.func274.trans (WD some ae)
  f283:=Tryz.func275.trans (WD some ae)
  f284:=Tryz.func276.trans (WD some ae)
  f285:=Tryz.func277.trans (WD some ae)
  f286:=Tryz.func278.trans (WD some ae)
  f317:=Tryz.func291.trans (WD some ae)
  f318:=Tryz.func292.trans (WD some ae)
  f319:=Tryz.func293.trans (WD some ae)
  f320:=Tryz.func294.trans (WD some ae)
  f337:=Tryz.func297.trans (WD some ae)
  f338:=Tryz.func298.trans (WD some ae)
  t0:=Tryz.underlying0
  a0:=Tryz.isAgg0
  z0:=Tryz.sizeOf0
  v0:=Tryz.zeroValue0
  t2:=Tryz.underlying2
  a2:=Tryz.isAgg2
  z2:=Tryz.sizeOf2
  v2:=Tryz.zeroValue2
  t3:=Tryz.underlying3
  a3:=Tryz.isAgg3
  z3:=Tryz.sizeOf3
  v3:=Tryz.zeroValue3
  t4:=Tryz.underlying4
  a4:=Tryz.isAgg4
  z4:=Tryz.sizeOf4
  v4:=Tryz.zeroValue4
  t5:=Tryz.underlying5
  a5:=Tryz.isAgg5
  z5:=Tryz.sizeOf5
  v5:=Tryz.zeroValue5
  t9:=Tryz.underlying9
  a9:=Tryz.isAgg9
  z9:=Tryz.sizeOf9
  v9:=Tryz.zeroValue9
  t20:=Tryz.underlying20
  a20:=Tryz.isAgg20
  z20:=Tryz.sizeOf20
  v20:=Tryz.zeroValue20
  t37:=Tryz.underlying266
  a37:=Tryz.isAgg266
  z37:=Tryz.sizeOf266
  v37:=Tryz.zeroValue266
  t46:=Tryz.underlying261
  a46:=Tryz.isAgg261
  z46:=Tryz.sizeOf261
  v46:=Tryz.zeroValue261
  t51:=Tryz.underlying302
  a51:=Tryz.isAgg302
  z51:=Tryz.sizeOf302
  v51:=Tryz.zeroValue302
  t53:=Tryz.underlying237
  a53:=Tryz.isAgg237
  z53:=Tryz.sizeOf237
  v53:=Tryz.zeroValue237
  t171:=Tryz.underlying313
  a171:=Tryz.isAgg313
  z171:=Tryz.sizeOf313
  v171:=Tryz.zeroValue313
  t173:=Tryz.underlying315
  a173:=Tryz.isAgg315
  z173:=Tryz.sizeOf315
  v173:=Tryz.zeroValue315
  t212:=Tryz.underlying336
  a212:=Tryz.isAgg336
  z212:=Tryz.sizeOf336
  v212:=Tryz.zeroValue336
  t213:=Tryz.underlying337
  a213:=Tryz.isAgg337
  z213:=Tryz.sizeOf337
  t232:=Tryz.underlying342
  a232:=Tryz.isAgg342
  z232:=Tryz.sizeOf342
  v232:=Tryz.zeroValue342
  t233:=Tryz.underlying343
  a233:=Tryz.isAgg343
  z233:=Tryz.sizeOf343
  v233:=Tryz.zeroValue343
  g17:=ae
  g18:=ae
  g19:=ae
  i0:=ae
  i2:=ae
  i3:=ae
  i4:=ae
  i5:=ae
  i9:=ae
  i20:=ae
  i37:=ae
  i46:=ae
  i51:=ae
  i53:=ae
  i171:=ae
  i173:=ae
  i212:=ae
  i232:=ae
  i233:=ae
  m17:=ae
  m18:=ae
  m19:=by kernel_rfl }
open Go.RowKit Go.Sort Go.Lib in
theorem Tryz.strconv_Itoa (n:Int) (h0: -9223372036854775808<=n) (h1:n<=9223372036854775807) (w:World) (htab:Lib.TabIs prog w "internal/strconv.uint64pow10" .u64 Lib.pow10Tab) :
    Calls prog 220 #[.int .i64 n] w fun e w'=>e=.returned (.string ⟨(Lib.itoa n).toArray⟩)/\∃ k os,w'=grow (w.drewN k) os:=Any.strconv_Itoa Tryz.laysM171 n h0 h1 w htab
open Go.RowKit Go.Sort Go.Lib in
set_option maxRecDepth 100000 in
theorem Tryz.fmtU (u:Nat) (hu64:u<18446744073709551616) (w:World) (htab:Lib.TabIs prog w "internal/strconv.uint64pow10" .u64 Lib.pow10Tab) :
    Calls prog 252 #[.int .u64 u,.int .i64 10] w fun e w'=>e=.returned (.string ⟨(decDigits u).toArray⟩)/\∃ k os,w'=grow (w.drewN k) os:=by
  have L:=Tryz.laysM171
  have mixed:=L.mixed
  have e275:∀ args w,(callFunc 275 args).run prog w=.ok (.enter 275 args) w:=enters_of Tryz.func275 ae rfl
  have e276:∀ args w,(callFunc 276 args).run prog w=.ok (.enter 276 args) w:=enters_of Tryz.func276 ae rfl
  have e277:∀ args w,(callFunc 277 args).run prog w=.ok (.enter 277 args) w:=enters_of Tryz.func277 ae rfl
  by_cases hs:u<100
  · go_enter Tryz.func252,Tryz.ntmps252
    go_wp2_with (go_at_fn 275;refine (Any.internal_strconv_small { L with } u hs _).mono ?_;rintro e w' ⟨rfl,rfl⟩)
    go_ret
    exact⟨rfl,0, #[],by simp[World.drewN_zero]⟩
  · have hu1:1<=u:=aa
    have hnd20:Lib.nDigits u<=20:=by have:=Lib.numDigits_eq u hu1 hu64;split at this<;>omega
    have hal:Tryz.prog.arrayLen 313=24:=ae
    have hsl1:∀ W,(Instr.sliceAt 313 (.pointer (some ⟨w.heap.size,0,none⟩)) none (some (.int .i64 (Lib.nDigits u:Int))) none).run prog W=.ok (.slice (some ⟨w.heap.size,0,none⟩) (Lib.nDigits u) 24) W:=fun W=>by
      rw[run_sliceAt_array_h W 313 ⟨w.heap.size,0,none⟩ ae .i64 (Lib.nDigits u:Int) aa (by rw[hal];omega)]
      go_simp
    have hH0:=Lib.holds_zero0 w 313 (Lib.nDigits u) aa
    have hfmt:=Any.internal_strconv_formatBase10 { L with } w.heap.size 0 24 u (Array.replicate (Lib.nDigits u) 0) (w.alloc (.cells Lib.zeros24 313)) hH0 (by rw[Xc];exact Lib.lt_pow_nDigits u) hu64 (by rw[Xc];omega)
    rw[Xc] at hfmt
    have HH0:=Lib.hid hH0
    clear hH0 hal
    go_enter Tryz.func252,Tryz.ntmps252
    go_wp2_with (first
      | (go_at_fn 276;refine (Any.internal_strconv_numDigits { L with } u hu1 hu64 _ (Lib.tabIs_alloc htab _)).mono ?_;rintro e w' ⟨rfl,rfl⟩))
    go_at_fn 277
    refine hfmt.mono ?_
    rintro e w' ⟨rfl,k,v',dk,rfl,hF⟩
    have hcv:(convert 266 9 (.slice (some ⟨w.heap.size,0,none⟩) (Lib.nDigits u) 24)).run prog ((putRow (fun (b:UInt8)=>Value.int .u8 (b.toNat:Int)) (w.alloc (.cells Lib.zeros24 313)) w.heap.size 0 dk).drewN k)=.ok (.string ⟨(decDigits u).toArray⟩) ((putRow (fun (b:UInt8)=>Value.int .u8 (b.toNat:Int)) (w.alloc (.cells Lib.zeros24 313)) w.heap.size 0 dk).drewN k):=by
      have h:=run_convert_bytes_back (P:=prog) ((putRow (fun (b:UInt8)=>Value.int .u8 (b.toNat:Int)) (w.alloc (.cells Lib.zeros24 313)) w.heap.size 0 dk).drewN k) 266 9 5 ⟨w.heap.size,0,none⟩ 24 (decDigits u) L.t37 L.t5 L.t9 (fun j hj=>by
        rw[Lib.row_is_numeral hF j hj,Lib.add_plain,World.cell?_drewN]
        exact cell?_putRow (fun (b:UInt8)=>Value.int .u8 (b.toNat:Int)) _ w.heap.size 0 _ dk HH0.out (by rw[hF.size,Xc]) j (by rw[hF.size];rw[Lib.decDigits_length] at hj;exact hj))
      rw[Lib.decDigits_length] at h
      exact h
    go_wp2
    go_ret
    obtain⟨os,eo⟩:=Lib.fin_at w (.cells Lib.zeros24 313) dk k 0
    exact⟨rfl,k,os,eo⟩
end Go.Proofs
end
section
namespace Go.Lens.Tb
open Go.Proofs Go.Lens.Un
variable [Lz]
attribute [local irreducible] TK PK T RG EfR Body CG
open Go.RowKit Go.Sort
def qJ:Prop:=∃ g T fr,Tryz.prog.globalNamed "internal/strconv.uint64pow10" =some g/\Lz.L g=some (.cells (Lib.pow10Tab.map fun z=>Value.int .u64 z).toArray T fr)
theorem pow_tab {G:Gh} {look:Nat->Option MO} {w:World} (hp:qJ) (M:ZZ G look w):Lib.TabIs prog w "internal/strconv.uint64pow10" .u64 Lib.pow10Tab:=by
 obtain⟨g,T,fr,h1,h2⟩:=hp
 obtain⟨_,h3⟩:=M.laid _ _ h2
 simp only[Lib.TabIs,World.var?,h1,zY,h3]
theorem grow_fin {G:Gh} {w:World} (M:ZZ G (qr []) w) (k:Nat) (os:Array Obj) (s:ByteArray):∃ G',Stepped G w (qr []) (vS s) [] G' (grow (w.drewN k) os) (.string s):=by
 have hh:(grow (w.drewN k) os).heap=w.heap++os:=rfl
 refine⟨G,kT M.ctx Z Z Z (by rw[hh,XN];omega) (fun b hb=>by rw[hh,Array.getElem?_append_left hb]) (qG rfl) ak (fun _=>Jj _ _)⟩
theorem w262 (hp:qJ) (n:Int) (h:R64 n):CKa 220 [vI n] (vS (bsO (Lib.itoa n))):=by
 unfold R64 at h
 refine⟨fun k hk=>by simp[DV.qL,DV.refs] at hk,fun G w vs M hv=>.inl ?_⟩
 obtain⟨v,rfl,hv1⟩:=hv.one
 obtain⟨rfl,_⟩:=qx hv1
 refine⟨Tryz.call220 _ _,Calls.mono (Tryz.strconv_Itoa n aa aa w (pow_tab hp M)) ?_⟩
 rintro e w' ⟨rfl,k,os,rfl⟩
 exact⟨_,rfl,grow_fin M k os _⟩
theorem w296 (hp:qJ) (u:Nat) (h:u<18446744073709551616):CKa 252 [WM (u:Int),vI 10] (vS (bsO (decDigits u))):=by
 refine⟨fun k hk=>by simp[DV.qL,DV.refs] at hk,fun G w vs M hv=>.inl ?_⟩
 obtain⟨v,v2,rfl,h1,h2⟩:=hv.two
 obtain⟨rfl,_⟩:=qx h1
 obtain⟨rfl,_⟩:=qx h2
 refine⟨Tryz.call252 _ _,Calls.mono (Tryz.fmtU u h w (pow_tab hp M)) ?_⟩
 rintro e w' ⟨rfl,k,os,rfl⟩
 exact⟨_,rfl,grow_fin M k os _⟩
theorem w264 (hp:qJ) (u:Nat) (hu:u<18446744073709551616):CKa 221 [WM (u:Int),vI 10] (vS (bsO (decDigits u))):=by
 exact cG qf221 Z (nB Z) Z (C Z (w296 hp u hu) Z Z Z (Rt Z (leaf Z Z)))
end Go.Lens.Tb
end
section
namespace Go.Proofs
open Go.Shelf
def Tryz.lays172_ren:Go.Shelf.Ren:=⟨fun|172=>178|244=>217|245=>218|247=>245|279=>246|280=>247|281=>248|282=>249|287=>271|316=>272|171=>220|205=>273|321=>289|322=>290|243=>251|246=>274|283=>275|284=>276|285=>277|286=>278|129=>250|317=>291|318=>292|319=>293|320=>294|337=>297|338=>298|n=>n,fun|9=>9|3=>3|75=>220|76=>221|4=>4|5=>5|167=>284|37=>266|0=>0|85=>285|2=>2|168=>287|53=>237|175=>306|46=>261|210=>310|127=>293|145=>334|143=>332|21=>21|171=>313|173=>315|212=>336|51=>302|20=>20|213=>337|232=>342|233=>343|80=>224|n=>n,fun|15=>4|16=>5|17=>8|18=>9|19=>10|n=>n⟩
theorem Tryz.lays172:Go.Proofs.Lays.n172 prog Tryz.lays172_ren:={
  mixed:=ae
  f129:=Tryz.func250.trans (WD some ae)
  f171:=Tryz.func220.trans (WD some ae)
  f172:=Tryz.func178.trans (WD some ae)
  f205:=Tryz.func273.trans (WD some ae)
  f243:=Tryz.func251.trans (WD some ae)
  f244:=Tryz.func217.trans (WD some ae)
  f245:=Tryz.func218.trans (WD some ae)
  f246:=Tryz.func274.trans (WD some ae)
  f247:=Tryz.func245.trans (WD some ae)
  f279:=Tryz.func246.trans (WD some ae)
  f280:=Tryz.func247.trans (WD some ae)
  f281:=Tryz.func248.trans (WD some ae)
  f282:=Tryz.func249.trans (WD some ae)
  f283:=Tryz.func275.trans (WD some ae)
  f284:=Tryz.func276.trans (WD some ae)
  f285:=Tryz.func277.trans (WD some ae)
  f286:=Tryz.func278.trans (WD some ae)
  f287:=Tryz.func271.trans (WD some ae)
  f316:=Tryz.func272.trans (WD some ae)
  f317:=Tryz.func291.trans (WD some ae)
  f318:=Tryz.func292.trans (WD some ae)
  f319:=Tryz.func293.trans (WD some ae)
  f320:=Tryz.func294.trans (WD some ae)
  f321:=Tryz.func289.trans (WD some ae)
  f322:=Tryz.func290.trans (WD some ae)
  f337:=Tryz.func297.trans (WD some ae)
  f338:=Tryz.func298.trans (WD some ae)
  t0:=Tryz.underlying0
  a0:=Tryz.isAgg0
  z0:=Tryz.sizeOf0
  v0:=Tryz.zeroValue0
  t2:=Tryz.underlying2
  a2:=Tryz.isAgg2
  z2:=Tryz.sizeOf2
  v2:=Tryz.zeroValue2
  t3:=Tryz.underlying3
  a3:=Tryz.isAgg3
  z3:=Tryz.sizeOf3
  v3:=Tryz.zeroValue3
  t4:=Tryz.underlying4
  a4:=Tryz.isAgg4
  z4:=Tryz.sizeOf4
  v4:=Tryz.zeroValue4
  t5:=Tryz.underlying5
  a5:=Tryz.isAgg5
  z5:=Tryz.sizeOf5
  v5:=Tryz.zeroValue5
  t9:=Tryz.underlying9
  a9:=Tryz.isAgg9
  z9:=Tryz.sizeOf9
  v9:=Tryz.zeroValue9
  t20:=Tryz.underlying20
  a20:=Tryz.isAgg20
  z20:=Tryz.sizeOf20
  v20:=Tryz.zeroValue20
  t21:=Tryz.underlying21
  a21:=Tryz.isAgg21
  z21:=Tryz.sizeOf21
  v21:=Tryz.zeroValue21
  t37:=Tryz.underlying266
  a37:=Tryz.isAgg266
  z37:=Tryz.sizeOf266
  v37:=Tryz.zeroValue266
  t46:=Tryz.underlying261
  a46:=Tryz.isAgg261
  z46:=Tryz.sizeOf261
  v46:=Tryz.zeroValue261
  t51:=Tryz.underlying302
  a51:=Tryz.isAgg302
  z51:=Tryz.sizeOf302
  v51:=Tryz.zeroValue302
  t53:=Tryz.underlying237
  a53:=Tryz.isAgg237
  z53:=Tryz.sizeOf237
  v53:=Tryz.zeroValue237
  t75:=Tryz.underlying220
  a75:=Tryz.isAgg220
  z75:=Tryz.sizeOf220
  v75:=Tryz.zeroValue220
  t76:=Tryz.underlying221
  a76:=Tryz.isAgg221
  z76:=Tryz.sizeOf221
  v76:=Tryz.zeroValue221
  t85:=Tryz.underlying285
  a85:=Tryz.isAgg285
  z85:=Tryz.sizeOf285
  v85:=Tryz.zeroValue285
  t127:=Tryz.underlying293
  a127:=Tryz.isAgg293
  z127:=Tryz.sizeOf293
  v127:=Tryz.zeroValue293
  t143:=Tryz.underlying332
  a143:=Tryz.isAgg332
  z143:=Tryz.sizeOf332
  v143:=Tryz.zeroValue332
  t145:=Tryz.underlying334
  a145:=Tryz.isAgg334
  z145:=Tryz.sizeOf334
  v145:=Tryz.zeroValue334
  t167:=Tryz.underlying284
  a167:=Tryz.isAgg284
  z167:=Tryz.sizeOf284
  v167:=Tryz.zeroValue284
  t168:=Tryz.underlying287
  a168:=Tryz.isAgg287
  z168:=Tryz.sizeOf287
  v168:=Tryz.zeroValue287
  t171:=Tryz.underlying313
  a171:=Tryz.isAgg313
  z171:=Tryz.sizeOf313
  v171:=Tryz.zeroValue313
  t173:=Tryz.underlying315
  a173:=Tryz.isAgg315
  z173:=Tryz.sizeOf315
  v173:=Tryz.zeroValue315
  t175:=Tryz.underlying306
  a175:=Tryz.isAgg306
  z175:=Tryz.sizeOf306
  v175:=Tryz.zeroValue306
  t210:=Tryz.underlying310
  a210:=Tryz.isAgg310
  z210:=Tryz.sizeOf310
  v210:=Tryz.zeroValue310
  t212:=Tryz.underlying336
  a212:=Tryz.isAgg336
  z212:=Tryz.sizeOf336
  v212:=Tryz.zeroValue336
  t213:=Tryz.underlying337
  a213:=Tryz.isAgg337
  z213:=Tryz.sizeOf337
  t232:=Tryz.underlying342
  a232:=Tryz.isAgg342
  z232:=Tryz.sizeOf342
  v232:=Tryz.zeroValue342
  t233:=Tryz.underlying343
  a233:=Tryz.isAgg343
  z233:=Tryz.sizeOf343
  v233:=Tryz.zeroValue343
  g15:=ae
  g16:=ae
  g17:=ae
  g18:=ae
  g19:=by kernel_rfl }
open Go.RowKit in
theorem Tryz.strconv_Atoi (s:ByteArray) (n:Int) (hl:s.size<=18) (h:Lib.atoi s.data.toList=some n) (w:World) :
    Calls prog 178 #[.string s] w fun e w'=>e=.returned (.tuple #[.int .i64 n,.nilIface])/\∃ t,w'=Lib.bytesWorld w 5 t:=Any.strconv_Atoi Tryz.lays172 s n hl h w
end Go.Proofs
end
section
namespace Go.Lens.Tb
open Go.Proofs Go.Lens.Un
variable [Lz]
attribute [local irreducible] TK PK T RG EfR Body CG
theorem w244 (l:Nb) (h:Dgs l) (hn:l≠[]) (hl:l.length<=18):CKa 178 [vS (bsO l)] (.tup [vI ((jp l:Nat):Int),.pv (.lit .nilIface)]):=by
 refine⟨fun k hk=>by simp[DV.qL,DV.refs] at hk,fun G w vs M hv=>.inl ?_⟩
 obtain⟨v,rfl,hv1⟩:=hv.one
 obtain⟨rfl,_⟩:=qx hv1
 refine⟨Tryz.call178 _ _,Calls.mono (Tryz.strconv_Atoi (bsO l) _ hl (atoi_dg h hn) w) ?_⟩
 rintro e w' ⟨rfl,t,rfl⟩
 exact⟨_,rfl,G,kT M.ctx Z Z Z (by rw[Lib.bytesWorld_size];omega) (fun b hb=>Lib.bytesWorld_at_old w 5 t b hb) (by simp only[qt];exact⟨_,rfl,RelDVs_lits (vs:=[.int .i64 ((jp l:Nat):Int),.nilIface]) au⟩) bW⟩
def RdOk (s:Nb):Prop:=Dgs (qC s [45])/\qC s [45]≠[]
def jM (s:Nb):NI:=bif jW s [45] then negI (jo ((jp (qC s [45]):Nat):Int)) else jo ((jp (qC s [45]):Nat):Int)
def RdI (d r:Nb) (o:NI):Prop:=okI o/\(∃ k,r=d.drop k/\k<=d.length/\o.1=((jp (d.take k):Nat):Int))/\(Dgs d/\d.length<=2000)/\(dig B64 o.1.natAbs).length<=400000
theorem dl_lt {n k:Nat} (h:n<10 ^ k):(dig B64 n).length<=k:=je qM (XJ h (Xx ah k))
theorem dl_10a:(dig B64 (ofI 10).1.natAbs).length=1:=by rw[show (ofI 10).1.natAbs=10 from rfl,j7 qM ah ah];rfl
theorem dl_10:(dig B64 (ofI 10).1.natAbs).length<=400000:=by rw[dl_10a];decide
section
variable {s d r:Nb} {o:NI} {m:Nat}
theorem rd_min (r:Nb) (h:0<(r.length:Int)):∃ m:Nat,min 18 (r.length:Int)=(m:Int)/\m<=18/\0<m/\m<=r.length:=⟨min 18 r.length,aa,aa,aa,aa⟩
theorem rd_four (h:RdI d r o) (h1:m<=r.length) (h3:0<m) (h2:m<=18):Dgs (r.take m)/\r.take m≠[]/\(r.take m).length<=18:=by
 obtain⟨_,⟨k,rfl,_,_⟩,h5,_⟩:=h
 refine⟨(h5.1.drop k).take m,fun e=>?_,by rw[zn];omega⟩
 have:=WD List.length e
 rw[zn,zd] at this;omega
theorem rd_five (h:Dgs (r.take m)/\r.take m≠[]/\(r.take m).length<=18): -9223372036854775808<=((jp (r.take m):Nat):Int)/\((jp (r.take m):Nat):Int)<=9223372036854775807:=by
 have h1:=kq h.1
 have h2:=Xj (show 0<10 by decide) h.2.2
 omega
theorem rd_pw (h:m<=18):(dig B64 (jo ((ofI 10).1 ^ m)).1.natAbs).length<=400000:=by
 rw[Zl,JY]
 exact qd (dl_lt (by show 10 ^ m<10 ^ (m+1);exact Nat.pow_lt_pow_right ah aa)) aa
theorem rd_k (h:RdI d r o):∃ k,k<=2000/\o.1.natAbs<10 ^ k:=by
 obtain⟨_,⟨k,_,h4,h3⟩,h5,_⟩:=h
 refine⟨k,aa,?_⟩
 rw[h3,XA]
 have:=kq (h5.1.take k)
 rwa [zn,JK h4] at this
theorem rd_ml (h:RdI d r o) (h2:m<=18):(dig B64 (kD o (jo ((ofI 10).1 ^ m))).1.natAbs).length<=400000:=by
 obtain⟨k,hk,h1⟩:=rd_k h
 rw[mulI_1,Zl,JW,JY]
 refine qd (dl_lt (k:=k+m) ?_) aa
 rw[Wh]
 exact Qp h1 (Wj ah)
theorem rd_vl {x:Nat} (h: -9223372036854775808<=(x:Int)/\(x:Int)<=9223372036854775807):(dig B64 (ofI (x:Int)).1.natAbs).length<=400000:=by
 have e:(ofI (x:Int)).1.natAbs=x:=rfl
 rw[e]
 exact qd (dl_lt (k:=20) aa) ah
theorem rd_init (h:RdOk s) (hl:s.length<=2000):RdI (qC s [45]) (qC s [45]) (0,false):=by
 refine⟨by unfold okI;simp,⟨0,rfl,zt _,rfl⟩,⟨h.1,?_⟩,by show (dig B64 0).length<=400000;rw[jL];decide⟩
 unfold qC
 cases jW s [45]
 ·exact hl
 simp only[Wy,zo];omega
theorem rd_step (h:RdI d r o) (h1:m<=r.length) (h3:0<m) (h2:m<=18):RdI d (r.drop m) (addI (kD o (jo ((ofI 10).1 ^ m))) (ofI ((jp (r.take m):Nat):Int))):=by
 have hd:=h.2.2.1
 obtain⟨_,⟨k,rfl,h4,h5⟩,_,_⟩:=h
 rw[zo] at h1
 have e:(addI (kD o (jo ((ofI 10).1 ^ m))) (ofI ((jp ((d.drop k).take m):Nat):Int))).1=((jp (d.take (k+m)):Nat):Int):=by
  rw[addI_1,mulI_1,Zl,h5,List.take_add,kV,zn,zo,JK aa]
  show ((jp (d.take k):Nat):Int)*10 ^ m+((jp ((d.drop k).take m):Nat):Int)=_
  push_cast;rfl
 refine⟨kM _ _,⟨k+m,by rw[J0],aa,e⟩,hd,?_⟩
 rw[e,XA]
 have:=kq (hd.1.take (k+m))
 rw[zn,JK aa] at this
 exact qd (dl_lt this) aa
theorem rd_end (h:RdI d r o) (h1:¬0<(r.length:Int)):o=jo ((jp d:Nat):Int):=by
 obtain⟨ho,⟨k,rfl,h4,h5⟩,_,_⟩:=h
 rw[zo] at h1
 rw[zz aa] at h5
 rw[okI_nn ho aa,h5]
theorem rd_e1 (h:RdI (qC s [45]) r o) (h1:¬0<(r.length:Int)) (h2:jW s [45]=true):(nV (negI o))=(nV (jM s)):=by
 rw[rd_end h h1];unfold jM;rw[h2];rfl
theorem rd_e2 (h:RdI (qC s [45]) r o) (h1:¬0<(r.length:Int)) (h2:jW s [45]=false):(nV o)=(nV (jM s)):=by
 rw[rd_end h h1];unfold jM;rw[h2];rfl
end
theorem w189 (s:Nb) (hs:RdOk s) (hl:s.length<=2000):CKa 113 [vS (bsO s)] (nV (jM s)):=by
 refine cG qf113 Z (nB Z) Z (E Z (B.bZ Z Z) (C Z (w242 s [45] aa ah) Z Z Z (C Z (w243 s [45] aa ah) Z Z Z (E Z (B.runZ Z (fun l=>Frz.aggZ l Z) Z) (E Z (B.bZ Z Z) (l2 (fun (r:Nb) (o:NI)=>[(0,vS (bsO r)),(2,.bref 3 0),(3,vB (jW s [45])),(4,.bref 5 0)]) (fun _ o=>[(3,.box 97 [vI 0,.pv (nilP)]),(5,.box 97 (bI o))]) (fun r o=>RdI (qC s [45]) r o) (fun r _=>r.length) (qC s [45]) (0,false) Z ?_ (sb Z Z Z) ?_))))))
 · exact rd_init hs hl
 intro r o hI0
 refine E Z (B.ZM Z un9) (Cp Z Z (fun h1=>?_) (fun h1=>?_))
 ·refine E Z (B.ZM Z un9) (E Z (B.min Z Z) ?_)
  refine tk 6 Z ?_
  refine tn ⟨[(0,vS (bsO r)),(2,.bref 3 0),(3,vB (jW s [45])),(4,.bref 5 0),(5,vI (min 18 (r.length:Int)))],[(3,.box 97 [vI 0,.pv (nilP)]),(5,.box 97 (bI o))]⟩ rfl rfl Z ?_
  obtain⟨m,hm1,hr2,hr3,hr1⟩:=rd_min r h1
  have hr4:=rd_four hI0 hr1 hr3 hr2
  have hr5:=rd_five hr4
  rw[hm1]
  refine kc (E Z (B.slHB Z Z un9 Z aa) (C Z (w244 (take m r) hr4.1 hr4.2.1 hr4.2.2) Z Z Z (C Z (w177 10) Z Z Z (C Z (w245 (ofI 10) m (ofI_ok ah) dl_10 (by rw[dl_10a];omega) aa) Z Z Z (C Z (w199 o (jo ((ofI 10).1 ^ m)) hI0.1 (jN _) hI0.2.2.2 (rd_pw hr2)) Z Z Z (C Z (w177 ((jp (take m r):Nat):Int)) Z Z Z (C Z (w198 (kD o (jo ((ofI 10).1 ^ m))) (ofI ((jp (take m r):Nat):Int)) (km _ _) (ofI_ok hr5) (rd_ml hI0 hr2) (rd_vl hr5)) Z Z Z (Dr Z ae (E Z (B.slLB Z Z un9 Z aa) (pk Z (L2 (drop m r) (addI (kD o (jo ((ofI 10).1 ^ m))) (ofI ((jp (take m r):Nat):Int))) ?_ ?_ (sb Z Z Z))))))))))))
  · exact rd_step hI0 hr1 hr3 hr2
  · (rw[zo];omega)
 refine Cb Z Z (fun h2=>?_) (fun h2=>?_)
 ·exact C Z (w192 o hI0.1 hI0.2.2.2) Z Z Z (Rt Z (lF Z bX))
 exact Rt Z (lF Z bX)
end Go.Lens.Tb
end
section
namespace Go.Lens
variable [Lz]
abbrev eB (c:UInt8):List PV:=[.lit (.int .u8 (c.toNat:Int))]
section
variable {P:Program} {Y:Tab} [qH P Y] {nb:Nat} {s:St} {dst:Option Tmp} {ty u:TypeId} {pos:String} {af:Array Edge} {gd:Option (Nat×Bool)} {t:TypeId} {x y:Operand}
theorem B.appendNB {r:Nb} {d h bs:Nat} {e at1 at2:TypeId} {i:TypeInfo} {zv:Value} (hx:ev1 s x=.nils) (hy:ev1 s y=lit (.string (bsO r))) (hne:(at1==at2)=false) (und:Y.underlying at1=some (.slice e)) (und2:Y.underlying at2=some .string) (hi:Y.info? e=some i)
  (hz:i.zero=some zv) (hq:(Nat.beq zv.cells.size i.size&&Nat.beq i.size 1)=true) (hb:i.bytes=bs)
  (hle:r.length*bs<=140737488355328/\r.length<=9223372036854775807) (hh:nameOf nb s.ms (some d)=h) (hm:jH s.ms h=false) :
  Body P Y nb s ⟨some d,.call ⟨.builtin .append,⟨[x,y]⟩,⟨[at1,at2]⟩⟩,ty,pos,af,gd⟩ (.aref h 0) [(h,.arr 0 1 e (r.map eB))] []:=by
 subst hb
 simp only[zj,Wq] at hq
 obtain⟨k2,k3⟩:=hq
 rw[<-k3]
 refine B.of0 (val0:=.aref h 0) (m0:=[(h,.arr 0 i.size e (r.map eB))]) (lo:=0) (nm:=h) (kn P) ?_ ?_ (Frz.refl _ _ _) ?_
 ·intro q hq
  have hq2:q∈[x,y]:=hq
  have:q=x\/q=y:=by simpa using hq2
  rcases this with rfl|rfl
  ·rw[hx];rfl
  rw[hy];rfl
 ·have e1:evU (tmpsOf [x,y]) s x=_:=(qR ao).trans hx
  have e2:evU (tmpsOf [x,y]) s y=_:=(qR ao).trans hy
  have ha:kP Y h at1 at2 .nils (lit (.string (bsO r))) (qr []) (qr [])=some ⟨true,.aref h 0,[(h,.arr 0 i.size e (r.map eB))]⟩:=by
   unfold kP
   have hs:srcOf Y at1 at2 i (qr []) .nils (lit (.string (bsO r)))=some (r.map eB):=by
    unfold srcOf
    simp only[hne,qk,qm,und2,lit,k3,ql];rfl
   have hq:(decide (0<i.size)&&i.zero.isSome&&decide ((i.zero.getD default).cells.size=i.size))=true:=by grind
   have hl:(qr ([]:Na) h).isNone=true:=rfl
   have hal:j6 i.size (r.map eB)=true:=by grind [j6,List.all_eq_true]
   grind
  have hv:effV Y h (some d) (.call ⟨.builtin .append,⟨[x,y]⟩,⟨[at1,at2]⟩⟩) (evU (tmpsOf [x,y]) s) (qr [])=some ⟨true,.aref h 0,[(h,.arr 0 i.size e (r.map eB))]⟩:=by
   show (match truncU _ (evU (tmpsOf [x,y]) s x) with|some (d',h',m)=>_|none=>kP Y h at1 at2 (evU (tmpsOf [x,y]) s x) (evU (tmpsOf [x,y]) s y) _ _)=_
   rw[e1,e2]
   exact ha
  show (match effV Y h (some d) (.call ⟨.builtin .append,⟨[x,y]⟩,⟨[at1,at2]⟩⟩) (evU (tmpsOf [x,y]) s) (qr []) with|some ⟨true,v,m⟩=>some (v,m)|_=>none)=_
  rw[hv]
 simp[hm]
theorem B.appendAB {l r:Nb} {h v bs:Nat} {T at1 at2:TypeId} {i:TypeInfo} {zv:Value} {d:Tmp} (hx:ev1 s x=.aref h v) (hm:qr s.ms h=some (.arr v 1 T (l.map eB))) (hy:ev1 s y=lit (.string (bsO r))) (hne:(at1==at2)=false) (und:Y.underlying at1=some (.slice T)) (und2:Y.underlying at2=some .string) (hi:Y.info? T=some i)
  (hz:i.zero=some zv) (hq:(Nat.beq zv.cells.size i.size&&Nat.beq i.size 1)=true) (hb:i.bytes=bs)
  (hlen:(l.length+r.length)*bs<=140737488355328/\l.length+r.length<=9223372036854775807) :
  Body P Y nb s ⟨some d,.call ⟨.builtin .append,⟨[x,y]⟩,⟨[at1,at2]⟩⟩,ty,pos,af,gd⟩ (.aref h (v+1)) [(h,.arr (v+1) 1 T ((l++r).map eB))] [h]:=by
 subst hb
 simp only[zj,Wq] at hq
 obtain⟨k2,k3⟩:=hq
 have e1:evU (tmpsOf [x,y]) s x=.aref h v:=(qR ao).trans hx
 have e2:evU (tmpsOf [x,y]) s y=lit (.string (bsO r)):=(qR ao).trans hy
 have hrs:([x,y].flatMap fun x'=>(evU (tmpsOf [x,y]) s x').refs)=[h]:=by simp[e1,e2,DV.refs,lit]
 have hsel:sel s.ms (jX s.ms 10000 [h] [])=[(h,.arr v 1 T (l.map eB))]:=by
  have:jX s.ms 10000 [h] []=[h]:=by
   show (bif ([]:List Nat).any (Nat.beq h) then _ else _)=_
   simp only[Ky,Ww,hm,MO.refs,zU];rfl
  rw[this];simp only[sel,hm]
 refine .inl ⟨O0,[(h,.arr v 1 T (l.map eB))],_,_,0,0,kn P,?_,?_,?_,?_,Frz.refl _ _ _,?_⟩
 ·show ledM s.ms ([x,y].flatMap fun x'=>(evU (tmpsOf [x,y]) s x').refs) 2=_
  rw[hrs];exact hsel
 ·show rdM s.ms ([x,y].flatMap fun x'=>(evU (tmpsOf [x,y]) s x').refs) [(h,.arr v 1 T (l.map eB))] 2=_
  rw[hrs];rfl
 ·show (q7 [(h,.arr v 1 T (l.map eB))]&&([x,y].flatMap fun x'=>(evU (tmpsOf [x,y]) s x').refs).all (jH [(h,.arr v 1 T (l.map eB))]))=true
  rw[hrs]
  simp[q7,MO.refs,jH,qy]
 ·have ha:kP Y 0 at1 at2 (.aref h v) (lit (.string (bsO r))) (qr [(h,.arr v 1 T (l.map eB))]) (qr [(h,.arr v 1 T (l.map eB))])=some ⟨true,.aref h (v+1),[(h,.arr (v+1) 1 T ((l++r).map eB))]⟩:=by
   unfold kP
   have hl:qr [(h,MO.arr v 1 T (l.map eB))] h=some (.arr v 1 T (l.map eB)):=by rw[qy,WK rfl]
   have hs:srcOf Y at1 at2 i (qr [(h,.arr v 1 T (l.map eB))]) (.aref h v) (lit (.string (bsO r)))=some (r.map eB):=by
    unfold srcOf
    simp only[hne,qk,qm,und2,lit,k3,ql];rfl
   have hq:(decide (0<i.size)&&i.zero.isSome&&decide ((i.zero.getD default).cells.size=i.size))=true:=by grind
   have hal:j6 i.size (r.map eB)=true:=by grind [j6,List.all_eq_true]
   grind
  have hv:effV Y 0 (some d) (.call ⟨.builtin .append,⟨[x,y]⟩,⟨[at1,at2]⟩⟩) (evU (tmpsOf [x,y]) s) (qr [(h,.arr v 1 T (l.map eB))])=some ⟨true,.aref h (v+1),[(h,.arr (v+1) 1 T ((l++r).map eB))]⟩:=by
   show (match truncU _ (evU (tmpsOf [x,y]) s x) with|some (d',h',m)=>_|none=>kP Y 0 at1 at2 (evU (tmpsOf [x,y]) s x) (evU (tmpsOf [x,y]) s y) _ _)=_
   rw[e1,e2]
   exact ha
  show (match effV Y 0 (some d) (.call ⟨.builtin .append,⟨[x,y]⟩,⟨[at1,at2]⟩⟩) (evU (tmpsOf [x,y]) s) (qr [(h,.arr v 1 T (l.map eB))]) with|some ⟨true,v,m⟩=>some (v,m)|_=>none)=_
  rw[hv]
 simp[jH,qy]
end
theorem bytesOf_eB:∀ l:Nb,bytesOf (l.map eB)=some l
 | []=>rfl
 | c::l=>by
  have h:Nat.blt c.toNat 256=true:=by rw[Ws];exact UInt8.toNat_lt c
  show (bif Nat.blt c.toNat 256 then (bytesOf (l.map eB)).map (UInt8.ofNat c.toNat::·) else none)=_
  rw[h,bytesOf_eB l,X4];rfl
section
variable {P:Program} {Y:Tab} [qH P Y] {nb:Nat} {s:St} {dst:Option Tmp} {ty u:TypeId} {pos:String} {af:Array Edge} {gd:Option (Nat×Bool)} {t:TypeId} {x y:Operand} {l:Nb} {h v:Nat} {T:TypeId}
theorem B.usd (hx:ev1 s x=.aref h v) (hm:qr s.ms h=some (.arr v 1 T (l.map eB))) (hl:l≠[]):Body P Y nb s ⟨dst,.call ⟨.builtin .unsafeSliceData,⟨[x]⟩,⟨[t]⟩⟩,ty,pos,af,gd⟩ (.eref h v 0 0) [] [h]:=by
 have e1:evU (tmpsOf [x]) s x=.aref h v:=(qR ao).trans hx
 have hrs:([x].flatMap fun x'=>(evU (tmpsOf [x]) s x').refs)=[h]:=by simp[e1,DV.refs]
 have hsel:sel s.ms (jX s.ms 10000 [h] [])=[(h,.arr v 1 T (l.map eB))]:=by
  have:jX s.ms 10000 [h] []=[h]:=by
   show (bif ([]:List Nat).any (Nat.beq h) then _ else _)=_
   simp only[Ky,Ww,hm,MO.refs,zU];rfl
  rw[this];simp only[sel,hm]
 refine .inl ⟨O0,[(h,.arr v 1 T (l.map eB))],_,_,0,0,kn P,?_,?_,?_,?_,Frz.refl _ _ _,?_⟩
 ·show ledM s.ms ([x].flatMap fun x'=>(evU (tmpsOf [x]) s x').refs) 2=_
  rw[hrs];exact hsel
 ·show rdM s.ms ([x].flatMap fun x'=>(evU (tmpsOf [x]) s x').refs) [(h,.arr v 1 T (l.map eB))] 2=_
  rw[hrs];rfl
 ·show (q7 [(h,.arr v 1 T (l.map eB))]&&([x].flatMap fun x'=>(evU (tmpsOf [x]) s x').refs).all (jH [(h,.arr v 1 T (l.map eB))]))=true
  rw[hrs]
  simp[q7,MO.refs,jH,qy]
 ·have ha:usdQ (qr [(h,.arr v 1 T (l.map eB))]) (.aref h v)=some (true,.eref h v 0 0):=by
   unfold usdQ
   have hl2:qr [(h,MO.arr v 1 T (l.map eB))] h=some (.arr v 1 T (l.map eB)):=by rw[qy,WK rfl]
   obtain⟨c,l',rfl⟩:=Qv hl
   grind
  show (match Z0 (usdQ (qr [(h,.arr v 1 T (l.map eB))]) (evU (tmpsOf [x]) s x)) with|some ⟨true,v,m⟩=>some (v,m)|_=>none)=_
  rw[e1,ha];rfl
 rfl
theorem B.ustr {t2:TypeId} (hx:ev1 s x=.eref h v 0 0) (hy:ev1 s y=lit (.int .i64 (l.length:Int))) (hm:qr s.ms h=some (.arr v 1 T (l.map eB))) (hl:l≠[]) (und:Y.underlying t=some (.pointer T)) (hs:szT Y T=some 1):Body P Y nb s ⟨dst,.call ⟨.builtin .unsafeString,⟨[x,y]⟩,⟨[t,t2]⟩⟩,ty,pos,af,gd⟩ (lit (.string (bsO l))) [(h,.farr v (l.map eB))] [h]:=by
 have e1:evU (tmpsOf [x,y]) s x=.eref h v 0 0:=(qR ao).trans hx
 have e2:evU (tmpsOf [x,y]) s y=lit (.int .i64 (l.length:Int)):=(qR ao).trans hy
 have hrs:([x,y].flatMap fun x'=>(evU (tmpsOf [x,y]) s x').refs)=[h]:=by simp[e1,e2,DV.refs,lit]
 have hsel:sel s.ms (jX s.ms 10000 [h] [])=[(h,.arr v 1 T (l.map eB))]:=by
  have:jX s.ms 10000 [h] []=[h]:=by
   show (bif ([]:List Nat).any (Nat.beq h) then _ else _)=_
   simp only[Ky,Ww,hm,MO.refs,zU];rfl
  rw[this];simp only[sel,hm]
 refine .inl ⟨O0,[(h,.arr v 1 T (l.map eB))],_,_,0,0,kn P,?_,?_,?_,?_,Frz.refl _ _ _,?_⟩
 ·show ledM s.ms ([x,y].flatMap fun x'=>(evU (tmpsOf [x,y]) s x').refs) 2=_
  rw[hrs];exact hsel
 ·show rdM s.ms ([x,y].flatMap fun x'=>(evU (tmpsOf [x,y]) s x').refs) [(h,.arr v 1 T (l.map eB))] 2=_
  rw[hrs];rfl
 ·show (q7 [(h,.arr v 1 T (l.map eB))]&&([x,y].flatMap fun x'=>(evU (tmpsOf [x,y]) s x').refs).all (jH [(h,.arr v 1 T (l.map eB))]))=true
  rw[hrs]
  simp[q7,MO.refs,jH,qy]
 ·have ha:ustrV Y t (.eref h v 0 0) (lit (.int .i64 (l.length:Int))) (qr [(h,.arr v 1 T (l.map eB))])=some ⟨true,lit (.string ⟨l.toArray⟩),[(h,.farr v (l.map eB))]⟩:=by
   unfold ustrV lit
   have hl2:qr [(h,MO.arr v 1 T (l.map eB))] h=some (.arr v 1 T (l.map eB)):=by rw[qy,WK rfl]
   simp only[hl2,und,hs,bytesOf_eB,zI,WL,hl,X5,WB,ql]
  show (match ustrV Y t (evU (tmpsOf [x,y]) s x) (evU (tmpsOf [x,y]) s y) (qr [(h,.arr v 1 T (l.map eB))]) with|some ⟨true,v,m⟩=>some (v,m)|_=>none)=_
  rw[e1,e2,ha];rfl
 simp[jH,qy]
end
end Go.Lens
end
section
namespace Go.Lens.Tb
open Go.Proofs Go.Lens.Un
variable [Lz]
attribute [local irreducible] TK PK T RG EfR Body CG
theorem w329 (o:MO):qA prog 281 [.bref 11 0] (qr [(11,o)]) (.bref 11 0) []:=by
 have hk:∀ k∈(DV.bref 11 0).refs,∃ o2,qr [(11,o)] k=some o2:=fun k hk=>by
  have:k=11:=by simpa [DV.refs] using hk
  subst this
  exact⟨o,by rw[qy,WK rfl]⟩
 refine⟨fun k h=>hk k (by simpa [DV.qL] using h),fun G w vs M hv=>.inr ?_⟩
 obtain⟨v,rfl,hv1⟩:=hv.one
 have he:∀ vs w,(callFunc 281 vs).run prog w=((Extern.AbiNoEscape.same vs).run prog w).andThen fun v w'=>.ok (.value v) w':=fun vs w=>run_callFunc_extern Tryz.func281 ae ae ae ae vs w
 exact⟨v,w,by rw[he];rfl,G,qD M.ctx hv1 hk⟩
theorem by5:ty5.info.bytes=1:=ae
theorem in5:tab.info? 5=some ty5.info:=ae
theorem sz266:szT tab 266=some 1:=ae
theorem sz5:szT tab 5=some 1:=ae
theorem un266:tab.underlying 266=some (.slice 5):=ae
theorem un293:tab.underlying 293=some (.pointer 5):=ae
theorem w299a:qA prog 256 [.bref 11 0] (qr [(11,.box 268 [.pv (.lit (.pointer none)),.nils])]) (.tup []) [(11,.box 268 [.bref 11 0,.nils])]:=by
 refine cL 12 [(11,.box 268 [.pv (.lit (.pointer none)),.nils])] qf256 Z (nB Z) Z Z (kc (E Z (B.run Z) (CT Z Z (E Z (B.run Z) (E Z (B.jx (w329 _) Z Z ⟨rfl,trivial⟩ rfl rfl) (E Z (B.run Z) ?_))))))
 refine Rn Z ?_
 exact ZG (val0:=.tup []) (out0:=[(11,.box 268 [.bref 11 0,.nils])]) (.inl Z) ae bY rfl
theorem w299b (l:Nb) (v:Nat):qA prog 256 [.bref 11 0] (qr [(11,.box 268 [.bref 11 0,.aref 26 v]),(26,.arr v 1 5 (List.map eB l))]) (.tup []) [(26,.arr v 1 5 (List.map eB l)),(11,.box 268 [.bref 11 0,.aref 26 v])]:=by
 refine cL 27 [(11,.box 268 [.bref 11 0,.aref 26 v]),(26,.arr v 1 5 (List.map eB l))] qf256 Z (nB Z) Z Z (kc (E Z (B.run Z) (CF Z Z (E Z (B.run Z) (CF Z Z ?_)))))
 refine Rn Z ?_
 exact ZG (val0:=.tup []) (out0:=[(26,.arr v 1 5 (List.map eB l)),(11,.box 268 [.bref 11 0,.aref 26 v])]) (.inl Z) ae bY rfl
theorem w266a (s:Nb) (hs:s.length<=1000000000):qA prog 223 [.bref 11 0,vS (bsO s)] (qr [(11,.box 268 [.pv (.lit (.pointer none)),.nils])]) (.tup [vI (s.length:Int),.pv (.lit .nilIface)]) [(26,.arr 0 1 5 (List.map eB s)),(11,.box 268 [.bref 11 0,.aref 26 0])]:=by
 exact cL 12 [(11,.box 268 [.pv (.lit (.pointer none)),.nils])] qf223 Z (nB Z) Z Z (kc (E Z (B.jx w299a Z Z ⟨rfl,trivial⟩ rfl rfl) (E Z (B.appendNB Z Z Z un266 un9 in5 Z Z by5 aa Z Z) (E Z (B.storeR Z Z Z Z sz266 Z Z) (E Z (B.ZM Z un9) (Rt Z (lL Z bY)))))))
theorem w266b (s l:Nb) (v:Nat) (hs:s.length<=1000000000) (hl:l.length<=1000000000):qA prog 223 [.bref 11 0,vS (bsO s)] (qr [(11,.box 268 [.bref 11 0,.aref 26 v]),(26,.arr v 1 5 (List.map eB l))]) (.tup [vI (s.length:Int),.pv (.lit .nilIface)]) [(26,.arr (v+1) 1 5 (List.map eB (l++s))),(11,.box 268 [.bref 11 0,.aref 26 (v+1)])]:=by
 exact cL 27 [(11,.box 268 [.bref 11 0,.aref 26 v]),(26,.arr v 1 5 (List.map eB l))] qf223 Z (nB Z) Z Z (kc (E Z (B.jx (w299b l v) Z Z ⟨rfl,rfl,trivial⟩ rfl rfl) (E Z (B.appendAB Z Z Z Z un266 un9 in5 Z Z by5 aa) (E Z (B.storeR Z Z Z Z sz266 Z Z) (E Z (B.ZM Z un9) (Rt Z (lL Z bY)))))))
theorem w267 (l:Nb) (v:Nat) (hl:l≠[]):qA prog 224 [.bref 11 0] (qr [(11,.box 268 [.bref 11 0,.aref 26 v]),(26,.arr v 1 5 (List.map eB l))]) (vS (bsO l)) [(26,.farr v (List.map eB l)),(11,.box 268 [.bref 11 0,.aref 26 v])]:=by
 exact cL 27 [(11,.box 268 [.bref 11 0,.aref 26 v]),(26,.arr v 1 5 (List.map eB l))] qf224 Z (nB Z) Z Z (kc (E Z (B.usd Z Z hl) (E Z (B.lenA Z Z un266) (E Z (B.ustr Z Z Z hl un293 sz5) (Dr Z ae (Rt Z (lL Z bY)))))))
end Go.Lens.Tb
end
section
namespace Go.Lens.Tb
open Go.Proofs Go.Lens.Un
variable [Lz]
abbrev eN (n:Nb):List PV:=[.lit (.string (bsO n))]
section
variable [Fc] {P:Program} {n nb:Nat} {Q:Exit->St->Prop} {K:List Fr} {x:Code} {c:Cg} {s:St} {tm:List (Nat×DV)} {ms:Na}
theorem TK.loop1 {α:Type} {c:Code} (S:α->St) (I:α->Prop) (m:α->Nat) (N:Nat) (h1:TK P n nb Q c (.lp (fun s'=>∃ x,I x/\m x<N/\Sub nb s' (S x))::K) s)
  (hb:∀ x,I x->TK P n nb Q c (.lp (LP nb S I m x)::K) (S x)):TK P n nb Q (.loop c) K s:=by
 refine T.loop (fun k s'=>(k=N/\s'=s)\/∃ x,I x/\m x=k/\Sub nb s' (S x)) ?_ (.inl ⟨rfl,rfl⟩)
 rintro k s' (⟨rfl,rfl⟩|⟨x,hI,rfl,hs'⟩)
 ·refine T.mono h1 fun e s2 h=>?_
  cases e with
  | normal=>
   obtain⟨x,k1,k2,k3⟩:=h
   exact⟨m x,k2,.inr ⟨x,k1,rfl,k3⟩⟩
  | _=>exact h
 refine T.weak hs'.wk (T.mono (hb x hI) fun e s2 h=>?_)
 cases e with
 | normal=>
  obtain⟨x',h1,h2,h3⟩:=h
  exact⟨m x',h2,.inr ⟨x',h1,rfl,h3⟩⟩
 | _=>exact h
theorem lU3 {α β γ:Type} (T:α->β->γ->List (Nat×DV)) (M:α->β->γ->Na) (I:α->β->γ->Prop) (m:α->β->γ->Nat) (N:Nat) (e:go n nb 9999 gN c=.t (.loop x) K tm ms)
 (h1:CG n nb Q (.t x (.lp (fun s=>∃ a1 a2 a3,I a1 a2 a3/\m a1 a2 a3<N/\Sub nb s ⟨T a1 a2 a3,M a1 a2 a3⟩)::K) tm ms))
 (hb:∀ a1 a2 a3,I a1 a2 a3->CG n nb Q (.t x (.lp (Q3 nb T M I m a1 a2 a3)::K) (T a1 a2 a3) (M a1 a2 a3))):CG n nb Q c:=tk 9999 e (TK.loop1 (α:=α×β×γ) (fun x=>⟨T x.1 x.2.1 x.2.2,M x.1 x.2.1 x.2.2⟩) (fun x=>I x.1 x.2.1 x.2.2) (fun x=>m x.1 x.2.1 x.2.2) N (by
  rw[show (fun s'=>∃ x:α×β×γ,I x.1 x.2.1 x.2.2/\m x.1 x.2.1 x.2.2<N/\Sub nb s' ⟨T x.1 x.2.1 x.2.2,M x.1 x.2.1 x.2.2⟩)=fun s'=>∃ a1 a2 a3,I a1 a2 a3/\m a1 a2 a3<N/\Sub nb s' ⟨T a1 a2 a3,M a1 a2 a3⟩ from funext fun s=>propext ⟨fun ⟨⟨b1,b2,b3⟩,h⟩=>⟨b1,b2,b3,h⟩,fun ⟨b1,b2,b3,h⟩=>⟨(b1,b2,b3),h⟩⟩]
  exact h1) (fun x hI=>by
  rw[show LP nb (fun x:α×β×γ=>⟨T x.1 x.2.1 x.2.2,M x.1 x.2.1 x.2.2⟩) (fun x=>I x.1 x.2.1 x.2.2) (fun x=>m x.1 x.2.1 x.2.2) x=Q3 nb T M I m x.1 x.2.1 x.2.2 from funext fun s=>propext ⟨fun ⟨⟨b1,b2,b3⟩,h⟩=>⟨b1,b2,b3,h⟩,fun ⟨b1,b2,b3,h⟩=>⟨(b1,b2,b3),h⟩⟩]
  exact hb x.1 x.2.1 x.2.2 hI))
end
attribute [local irreducible] TK PK T RG EfR Body CG
def sgT (z:Int):Nb:=if z<0 then [45] else []
theorem w265i (L:Nat) (h:L<=18):CKa 222 [vS (bsO [48]),vI (18-(L:Int))] (vS (bsO (replicate (18-L) 48))):=by
 have:=w265 (18-L) aa
 rwa [show (((18-L:Nat):Nat):Int)=18-(L:Int) by omega] at this
theorem w263k (m:Nat) (h:(dig B64 m).length<=400000):CKa 215 [vL eU (dig B64 m),vL eU [1000000000000000000]] (.tup [vL eU (dig B64 (m / K18)),vL eU (dig B64 (m%K18))]):=by
 have:=w263 m K18 ah aa (qd (dl_lt (k:=19) ah) ah)
 rwa [j7 qM (show K18≠0 by decide) ah] at this
section
variable {z n m:Nat} {ps:List Nb} {a:Int}
theorem st_n0 {a:Int} (h:I63<=a.natAbs):a.natAbs≠0:=by unfold I63 at h;omega
theorem st_ml (h:m<=n) (hl:(dig B64 n).length<=400000):(dig B64 m).length<=400000:=qd (dv_len h) hl
theorem blen_dig (n:Nat):q9 n<=64*(dig B64 n).length:=by
 rcases XG n with e|e
 ·subst e;rw[show q9 0=0 from rfl];omega
 have hl:=dv_bl e
 rw[bt_s (m:=n) (n:=(dig B64 n).length-1) aa]
 have:=bt_b (bt_g n ((dig B64 n).length-1))
 omega
theorem st_pl (h:StI n m ps) (hl:(dig B64 n).length<=400000):ps.length<=25600000:=by
 have:=blen_dig n
 have:=h.2.1
 omega
theorem st_m0 (h:0<(((dig B64 m).length:Nat):Int)):m≠0:=by intro e;subst e;rw[jL] at h;exact absurd h ah
theorem st_z0 (h:¬0<(((dig B64 m).length:Nat):Int)):m=0:=dig_nil qM (QS.1 aa)
theorem st_r (h:0<(((dig B64 (m%K18)).length:Nat):Int)):(dig B64 (m%K18)).getD 0 0=m%K18:=by
 have h0:=st_m0 h
 rw[j7 qM aa (KK (Wu m (show 0<K18 by decide)) ah)];rfl
theorem st_z (h:¬0<(((dig B64 (m%K18)).length:Nat):Int)):decDigits (m%K18)=[48]:=by rw[st_z0 h,decDigits,WI ah];rfl
theorem st_p (h:0<(((dig B64 (m / K18)).length:Nat):Int)):partF m=replicate (18-(decDigits (m%K18)).length) 48++decDigits (m%K18):=by unfold partF;rw[WK (XK (st_m0 h))];rfl
theorem st_q (h:¬0<(((dig B64 (m / K18)).length:Nat):Int)):partF m=decDigits (m%K18):=by unfold partF;rw[WJ (by rw[st_z0 h];decide)]
theorem st_dl (m:Nat):(decDigits (m%K18)).length<=18:=dec_len (k:=18) ah (Wu m (show 0<K18 by decide))
theorem st_fin (h:StI n m ps) (h1:¬0<(((dig B64 m).length:Nat):Int)):ps≠[]/\decDigits n=Zr ps/\ps.length<=q9 n/\∀ p∈ps,p.length<=18:=by rw[st_z0 h1] at h;exact Un.st_end h
theorem st_pl2 (h:ps≠[]/\decDigits n=Zr ps/\ps.length<=q9 n/\∀ p∈ps,p.length<=18) (hl:(dig B64 n).length<=400000):ps.length<=40000000:=by
 have:=blen_dig n
 omega
theorem sq_pos (h:ps≠[]/\decDigits n=Zr ps/\ps.length<=q9 n/\∀ p∈ps,p.length<=18):1<=ps.length:=Xr.2 h.1
theorem st_get (h:∀ p∈ps,p.length<=18) (k:Nat):(ps.getD k []).length<=18:=by grind
theorem st_ge (h:ps≠[]/\decDigits n=Zr ps/\ps.length<=q9 n/\∀ p∈ps,p.length<=18):0<=(ps.length:Int)-1:=by have:=sq_pos h;omega
theorem sg_len (a:Int):(sgT a).length<=1:=by unfold sgT;split<;>simp
theorem wr_used (a:Int) (h:a<0):WrI (sgT a) ps (((ps.length:Nat):Int)-1) [45]:=by
 refine⟨aa,aa,?_⟩
 unfold sgT
 rw[WK h,show (((ps.length:Nat):Int)-1+1).toNat=ps.length by omega,Ja];rfl
theorem wr_first (a:Int) (hs:ps≠[]/\decDigits n=Zr ps/\ps.length<=q9 n/\∀ p∈ps,p.length<=18) (h:¬a<0):WrI (sgT a) ps (((ps.length:Nat):Int)-1-1) (ps.getD (ps.length-1) []):=by
 have hp:=sq_pos hs
 have h0:WrI (sgT a) ps (((ps.length:Nat):Int)-1) []:=by
  refine⟨aa,aa,?_⟩
  unfold sgT
  rw[WJ h,show (((ps.length:Nat):Int)-1+1).toNat=ps.length by omega,Ja];rfl
 have:=wr_step h0 aa
 rwa [zU,show (((ps.length:Nat):Int)-1).toNat=ps.length-1 by omega] at this
theorem st_ne {l:Nb} (hs:ps≠[]/\decDigits n=Zr ps/\ps.length<=q9 n/\∀ p∈ps,p.length<=18) (h:l=sgT a++Zr ps):l≠[]:=by
 intro e
 rw[e] at h
 exact Un.ZE n (hs.2.1.trans (QW.1 h.symm).2)
theorem st_itoa {a:Int} (hs:ps≠[]/\decDigits a.natAbs=Zr ps/\ps.length<=q9 a.natAbs/\∀ p∈ps,p.length<=18):sgT a++Zr ps=Lib.itoa a:=by
 unfold sgT Lib.itoa
 grind
end
theorem by9:ty9.info.bytes=16:=ae
theorem in9:tab.info? 9=some ty9.info:=ae
theorem sz9:szT tab 9=some 1:=ae
theorem un58:tab.underlying 58=some (.slice 9):=ae
theorem w222s (z1:Int) (hR1:R64 z1) (hl1:(dig B64 (natAbs z1)).length<=400000) (hp:qJ):CKa 182 [.pv (.agg [pI z1,nilP])] (vS (bsO (Lib.itoa (fst (z1,false))))):=by
 exact cG qf182 Z (nB Z) Z (E Z (B.run Z) (CT Z Z (C Z (w262 hp z1 hR1) Z Z Z (Rt Z (lF Z cd)))))
theorem w222b (z1 s1:Int) (d1:Nat) (e1:List Nat) (hd1:dig B64 (natAbs z1)=d1::e1) (hs1:s1=if z1<0 then -1 else 1) (hb1:I63<=natAbs z1) (hl1:(dig B64 (natAbs z1)).length<=400000) (hp:qJ):CKa 182 [.pv (.agg [pI s1,pL eU (d1::e1)])] (vS (bsO (Lib.itoa (fst (z1,true))))):=by
 refine cG qf182 Z (nB Z) Z (E Z (B.run Z) (CF Z Z (C Z (w247b z1 s1 d1 e1 hd1 (sg_of hs1)) Z Z Z (E Z (B.zA (es:=List.map eU [1000000000000000000]) Z) (E Z (B.adopt 7 1 9 Z Z) (l3 (fun (m:Nat) (ps:List Nb) (v:Nat)=>[(3,vB (decide (z1<0))),(4,vL eU (dig B64 m)),(5,vL eU [1000000000000000000]),(6,.aref 7 v)]) (fun _ ps v=>[(7,.arr v 1 9 (List.map eN ps))]) (fun m ps _=>StI (natAbs z1) m ps/\m<=natAbs z1) (fun m _ _=>m) (natAbs z1) [] 0 Z ?_ (sb Z Z Z) ?_))))))
 · exact⟨Un.st_init (st_n0 hb1),zB _⟩
 intro m ps v hI0
 have hml:=st_ml hI0.2 hl1
 have hpl:=st_pl hI0.1 hl1
 refine E Z (B.ju Z jg) (Cp Z Z (fun h1=>?_) (fun h1=>?_))
 ·refine C Z (w263k m hml) Z Z Z (E Z (B.ju Z jg) (Cj [(3,vB (decide (z1<0))),(5,vL eU [1000000000000000000]),(6,.aref 7 v),(7,vL eU (dig B64 (m / K18))),(9,vS (bsO (decDigits (m%K18))))] [(7,.arr v 1 9 (List.map eN ps))] Z Z Z (fun h2=>?_) (fun h2=>?_) ?_))
  ·replace h2:=X6 h2
   refine E Z (B.idx (z:=0) Z Z jg qN (fun _=>rfl) Z cg) (C Z (w264 hp (getD (dig B64 (m%K18)) 0 0) (bt_g _ _)) Z Z Z (pk Z ?_))
   show Sub _ _ _
   first|rw[st_r ab]|rw[st_z ab]
   exact sb Z Z rfl
  ·replace h2:=XM h2
   refine pk Z ?_
   show Sub _ _ _
   first|rw[st_r ab]|rw[st_z ab]
   exact sb Z Z rfl
  refine E Z (B.ju Z jg) (Cj [(3,vB (decide (z1<0))),(5,vL eU [1000000000000000000]),(6,.aref 7 v),(7,vL eU (dig B64 (m / K18))),(9,vS (bsO (partF m)))] [(7,.arr v 1 9 (List.map eN ps))] Z Z Z (fun h3=>?_) (fun h3=>?_) ?_)
  ·replace h3:=X6 h3
   have hsl:=st_dl m
   refine E Z (B.ZM Z un9) (E Z (B.sub Z Z bg) (C Z (w265i ((decDigits (m%K18)).length) hsl) Z Z Z (E Z (B.catB Z Z (by first|omega|(simp only[za,qa];omega))) (pk Z ?_))))
   show Sub _ _ _
   first|rw[st_p ab]|rw[st_q ab]
   exact sb Z Z rfl
  ·replace h3:=XM h3
   refine pk Z ?_
   show Sub _ _ _
   first|rw[st_p ab]|rw[st_q ab]
   exact sb Z Z rfl
  refine E Z (B.zA (es:=List.map eN [(partF m)]) Z) (E Z (B.append Z Z Z un58 in9 Z (fun _=>rfl) by9 cg) (pk Z (L3 (m / K18) (ps++[(partF m)]) (v+1) ?_ ?_ (sb Z Z Z))))
  · exact⟨Un.st_step hI0.1 (st_m0 h1),qd (JG _ _) hI0.2⟩
  · exact JH (XK (st_m0 h1)) ah
 refine Fz 15 6 Z Z Z (E Z (B.run Z) ?_)
 have hse:=st_fin hI0.1 h1
 have hpl2:=st_pl2 hse hl1
 have hwg:=st_get hse.2.2.2 (ps.length-1)
 have hne:=sq_pos hse
 refine Cp Z Z (fun h4=>?_) (fun h4=>?_)
 ·refine E Z (B.jx (w266a [45] ah) Z Z ⟨rfl,trivial⟩ rfl rfl) (E Z (B.ju Z un58) (E Z (B.sub Z Z bg) (l3 (fun (i:Int) (l:Nb) (v2:Nat)=>[(6,vL eN ps),(10,.bref 11 0),(11,vI i)]) (fun _ l v2=>[(11,.box 268 [.bref 11 0,.aref 26 v2]),(26,.arr v2 1 5 (List.map eB l))]) (fun i l _=>WrI (sgT z1) ps i l) (fun i _ _=>toNat (i+1)) (((ps.length:Nat):Int)-1) ([45]) 0 Z ?_ (sb Z Z Z) ?_)))
  · exact wr_used z1 h4
  intro i l v2 hI1
  have hw1:=hI1.1
  have hw2:=hI1.2.1
  have hwl:=wr_len hI1 hse.2.2.2 hpl2 (sg_len z1)
  have hwp:=st_get hse.2.2.2 (toNat i)
  refine Cp Z Z (fun h5=>?_) (fun h5=>?_)
  ·refine E Z (B.idx (z:=[]) Z Z un58 sz9 (fun _=>rfl) (Xl cg).symm cg) (E Z (B.jx (w266b (ps.getD (toNat i) []) l v2 aa hwl) Z Z ⟨rfl,rfl,trivial⟩ rfl rfl) (E Z (B.sub Z Z bg) (pk Z (L3 (i-1) (l++(ps.getD (toNat i) [])) (v2+1) ?_ ?_ (sb Z Z Z)))))
   · exact wr_step hI1 ab
   · omega
  have hwn:=st_ne hse (wr_end hI1 ab)
  exact E Z (B.jx (w267 l v2 hwn) Z Z ⟨rfl,rfl,trivial⟩ rfl rfl) (Rt Z (lF Z cd))
 refine E Z (B.ju Z un58) (E Z (B.sub Z Z bg) ?_)
 refine lU3 (fun (i:Int) (l:Nb) (v2:Nat)=>[(6,vL eN ps),(10,.bref 11 0),(11,vI i)]) (fun i l v2=>[(11,.box 268 [.bref 11 0,.aref 26 v2]),(26,.arr v2 1 5 (List.map eB l))]) (fun i l v2=>WrI (sgT z1) ps i l) (fun i l v2=>toNat (i+1)) (ps.length+1) Z ?_ ?_
 ·refine Cp Z Z (fun h6=>?_) (fun h6=>?_)
  ·refine E Z (B.idx (z:=[]) (i:=(ps.length-1)) Z Z un58 sz9 (fun _=>rfl) aa cg) (E Z (B.jx (w266a (ps.getD (ps.length-1) []) aa) Z Z ⟨rfl,trivial⟩ rfl rfl) (E Z (B.sub Z Z bg) (pk Z ⟨(((ps.length:Int)-1)-1),(ps.getD (ps.length-1) []),0,?_,?_,sb Z Z rfl⟩)))
   · exact wr_first z1 hse h4
   · omega
  exact absurd (st_ge hse) h6
 intro i l v2 hI1
 have hw1:=hI1.1
 have hw2:=hI1.2.1
 have hwl:=wr_len hI1 hse.2.2.2 hpl2 (sg_len z1)
 have hwp:=st_get hse.2.2.2 (toNat i)
 refine Cp Z Z (fun h7=>?_) (fun h7=>?_)
 ·refine E Z (B.idx (z:=[]) Z Z un58 sz9 (fun _=>rfl) (Xl cg).symm cg) (E Z (B.jx (w266b (ps.getD (toNat i) []) l v2 aa hwl) Z Z ⟨rfl,rfl,trivial⟩ rfl rfl) (E Z (B.sub Z Z bg) (pk Z (L3 (i-1) (l++(ps.getD (toNat i) [])) (v2+1) ?_ ?_ (sb Z Z Z)))))
  · exact wr_step hI1 ab
  · omega
 have hwn:=st_ne hse (wr_end hI1 ab)
 exact E Z (B.jx (w267 l v2 hwn) Z Z ⟨rfl,rfl,trivial⟩ rfl rfl) (Rt Z (lF Z cd))
theorem w222 (x:NI) (hx:okI x) (hxl:(dig B64 (natAbs x.1)).length<=400000) (hp:qJ):CKa 182 [.pv (.agg [pI (nH x),(nW x)])] (vS (bsO (Lib.itoa (fst x)))):=by
 obtain⟨z1,b1⟩:=x
 cases b1
 ·exact w222s z1 (ok_R hx) hxl hp
 obtain⟨d1,e1,hd1⟩:=jq (z:=z1) hx
 rw[nW_b hd1]
 exact w222b z1 _ d1 e1 hd1 Z hx hxl hp
end Go.Lens.Tb
end
