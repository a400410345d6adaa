/- A part of the proof of PupilDiscCardSaid, without conditions. -/
import Derived.Test.YthmgaldefkaglaaGreatDoorP8
set_option linter.unusedVariables false
set_option linter.unusedSimpArgs false
set_option linter.unusedSectionVars false
set_option maxHeartbeats 4000000
section
namespace Go.Lens.Tb
open Go.Proofs Go.Lens.Un
variable [Lz] [Dn]
set_option maxRecDepth 100000
def zTab:List ZL:=[
 [((0,0),1)],
 [((1,0),1)],
 [((0,1),1)],
 [((2,0),1),((0,2), -1)],
 [((0,0), -1),((2,0),2),((0,2),2)],
 [((1,1),2)],
 [((3,0),1),((1,2), -3)],
 [((1,0), -2),((3,0),3),((1,2),3)],
 [((0,1), -2),((2,1),3),((0,3),3)],
 [((2,1),3),((0,3), -1)],
 [((4,0),1),((2,2), -6),((0,4),1)],
 [((2,0), -3),((0,2),3),((4,0),4),((0,4), -4)],
 [((0,0),1),((2,0), -6),((0,2), -6),((4,0),6),((2,2),12),((0,4),6)],
 [((1,1), -6),((3,1),8),((1,3),8)],
 [((3,1),4),((1,3), -4)],
 [((5,0),1),((3,2), -10),((1,4),5)],
 [((3,0), -4),((1,2),12),((5,0),5),((3,2), -10),((1,4), -15)],
 [((1,0),3),((3,0), -12),((1,2), -12),((5,0),10),((3,2),20),((1,4),10)],
 [((0,1),3),((2,1), -12),((0,3), -12),((4,1),10),((2,3),20),((0,5),10)],
 [((2,1), -12),((0,3),4),((4,1),15),((2,3),10),((0,5), -5)],
 [((4,1),5),((2,3), -10),((0,5),1)],
 [((6,0),1),((4,2), -15),((2,4),15),((0,6), -1)],
 [((4,0), -5),((2,2),30),((0,4), -5),((6,0),6),((4,2), -30),((2,4), -30),((0,6),6)],
 [((2,0),6),((0,2), -6),((4,0), -20),((0,4),20),((6,0),15),((4,2),15),((2,4), -15),((0,6), -15)],
 [((0,0), -1),((2,0),12),((0,2),12),((4,0), -30),((2,2), -60),((0,4), -30),((6,0),20),((4,2),60),((2,4),60),((0,6),20)],
 [((1,1),12),((3,1), -40),((1,3), -40),((5,1),30),((3,3),60),((1,5),30)],
 [((3,1), -20),((1,3),20),((5,1),24),((1,5), -24)],
 [((5,1),6),((3,3), -20),((1,5),6)],
 [((7,0),1),((5,2), -21),((3,4),35),((1,6), -7)],
 [((5,0), -6),((3,2),60),((1,4), -30),((7,0),7),((5,2), -63),((3,4), -35),((1,6),35)],
 [((3,0),10),((1,2), -30),((5,0), -30),((3,2),60),((1,4),90),((7,0),21),((5,2), -21),((3,4), -105),((1,6), -63)],
 [((1,0), -4),((3,0),30),((1,2),30),((5,0), -60),((3,2), -120),((1,4), -60),((7,0),35),((5,2),105),((3,4),105),((1,6),35)],
 [((0,1), -4),((2,1),30),((0,3),30),((4,1), -60),((2,3), -120),((0,5), -60),((6,1),35),((4,3),105),((2,5),105),((0,7),35)],
 [((2,1),30),((0,3), -10),((4,1), -90),((2,3), -60),((0,5),30),((6,1),63),((4,3),105),((2,5),21),((0,7), -21)],
 [((4,1), -30),((2,3),60),((0,5), -6),((6,1),35),((4,3), -35),((2,5), -63),((0,7),7)],
 [((6,1),7),((4,3), -35),((2,5),21),((0,7), -1)],
 [((8,0),1),((6,2), -28),((4,4),70),((2,6), -28),((0,8),1)],
 [((6,0), -7),((4,2),105),((2,4), -105),((0,6),7),((8,0),8),((6,2), -112),((2,6),112),((0,8), -8)],
 [((4,0),15),((2,2), -90),((0,4),15),((6,0), -42),((4,2),210),((2,4),210),((0,6), -42),((8,0),28),((6,2), -112),((4,4), -280),((2,6), -112),((0,8),28)],
 [((2,0), -10),((0,2),10),((4,0),60),((0,4), -60),((6,0), -105),((4,2), -105),((2,4),105),((0,6),105),((8,0),56),((6,2),112),((2,6), -112),((0,8), -56)],
 [((0,0),1),((2,0), -20),((0,2), -20),((4,0),90),((2,2),180),((0,4),90),((6,0), -140),((4,2), -420),((2,4), -420),((0,6), -140),((8,0),70),((6,2),280),((4,4),420),((2,6),280),((0,8),70)],
 [((1,1), -20),((3,1),120),((1,3),120),((5,1), -210),((3,3), -420),((1,5), -210),((7,1),112),((5,3),336),((3,5),336),((1,7),112)],
 [((3,1),60),((1,3), -60),((5,1), -168),((1,5),168),((7,1),112),((5,3),112),((3,5), -112),((1,7), -112)],
 [((5,1), -42),((3,3),140),((1,5), -42),((7,1),48),((5,3), -112),((3,5), -112),((1,7),48)],
 [((7,1),8),((5,3), -56),((3,5),56),((1,7), -8)]]
def zt (a j:Nat):ZL:=zTab.getD (a*(a+1) / 2+j) []
def allM (p:Nat->Nat->Bool):Bool:=(List.range 9).all fun a=>(List.range (a+1)).all fun j=>p a j
theorem allM_e {p:Nat->Nat->Bool} (h:allM p=true) {a j:Nat} (ha:a<=8) (hj:j<=a):p a j=true:=
 zr.1 (zr.1 h a (List.mem_range.2 aa)) j (List.mem_range.2 aa)
def eqZ (P Q:ZL):Bool:=(P++Q).all fun a=>decide (cfZ P a.1=cfZ Q a.1)
theorem eqZ_e {P Q:ZL} (h:eqZ P Q=true):Eqv (P.map cI) (Q.map cI):=fun k=>by
 by_cases g:∃ a∈P++Q,a.1=k
 ·obtain⟨a,ha,rfl⟩:=g
  rw[cfZ_e,cfZ_e,of_decide_eq_true (zr.1 h a ha)]
 have no:∀ R:ZL,(∀ a∈R,a∈P++Q)->cf (R.map cI) k=0:=fun R hR=>cf_no fun hk=>by
  rw[List.map_map] at hk
  obtain⟨a,ha,e⟩:=zF.1 hk
  exact g ⟨a,hR a ha,e⟩
 rw[no P (fun a h=>List.mem_append_left _ h),no Q (fun a h=>List.mem_append_right _ h)]
def prodZ (A B:ZL):ZL:=A.flatMap fun a=>B.map fun b=>(kadd a.1 b.1,a.2*b.2)
def sclZ (c:Int) (A:ZL):ZL:=A.map fun a=>(a.1,a.2*c)
theorem prodZ_e (A B:ZL):qO (A.map cI) (B.map cI)=(prodZ A B).map cI:=by
 unfold qO prodZ rowP
 rw[List.flatMap_map,List.map_flatMap]
 congr 1
 funext a
 rw[List.map_map,List.map_map]
 exact List.map_congr_left fun b _=>by simp only[Function.comp,cI,Rat.intCast_mul]
theorem sclZ_e (c:Int) (A:ZL):scl (c:Rat) (A.map cI)=(sclZ c A).map cI:=by
 unfold scl sclZ
 rw[List.map_map,List.map_map]
 exact List.map_congr_left fun b _=>by simp only[Function.comp,cI,Rat.intCast_mul]
def sqZ:ZL:=[((2,0),1),((0,2),1)]
def powZ (c:Int):Nat->ZL
 | 0=>[((0,0),c)]
 | j+1=>prodZ (powZ c j) sqZ
def crZ (n k s:Int):Int:=(if s%2=1 then -1 else 1)*(jE (n-s) / (jE s*jE ((n+k) / 2-s)*jE ((n-k) / 2-s)))
def radZ (n k:Int):Nat->ZL
 | 0=>[]
 | i+1=>radZ n k i++sclZ 1 (powZ (crZ n k ((i:Nat):Int)) (Int.toNat ((n-k) / 2-((i:Nat):Int))))
def zpZ:Nat->ZL×ZL
 | 0=>([((0,0),1)],[])
 | j+1=>(prodZ (zpZ j).1 [((1,0),1)]++sclZ (-1) (prodZ (zpZ j).2 [((0,1),1)]),prodZ (zpZ j).1 [((0,1),1)]++sclZ 1 (prodZ (zpZ j).2 [((1,0),1)]))
def zeZ (n k m:Int):ZL:=prodZ (radZ n k (Int.toNat ((n-k) / 2+1))) (if m<0 then (zpZ k.toNat).2 else (zpZ k.toNat).1)
theorem powZ_e (c:Int):∀ j,powP (c:Rat) j=(powZ c j).map cI
 | 0=>rfl
 | j+1=>by rw[powP,powZ,powZ_e c j,<-prodZ_e];rfl
theorem radZ_e {n k:Int}:∀ i,(∀ s,s<i->crR n k ((s:Nat):Int)=((crZ n k ((s:Nat):Int):Int):Rat))->radP n k i=(radZ n k i).map cI
 | 0,_=>rfl
 | i+1,h=>by
  rw[radP,radZ,radZ_e i (fun s hs=>h s aa),h i aa,powZ_e,qc,<-sclZ_e];rfl
theorem zpZ_e:∀ j,zPw j=((zpZ j).1.map cI,(zpZ j).2.map cI)
 | 0=>rfl
 | j+1=>by
  rw[zPw,zpZ,zpZ_e j]
  simp only[qc,<-sclZ_e,<-prodZ_e];rfl
theorem zeZ_e {n m:Int} (h:∀ s,s<Int.toNat ((n-max m (0-m)) / 2+1)->crR n (max m (0-m)) ((s:Nat):Int)=((crZ n (max m (0-m)) ((s:Nat):Int):Int):Rat)):zeP n m=(zeZ n (max m (0-m)) m).map cI:=by
 unfold zeP zeZ radQ
 rw[radZ_e _ h,zpZ_e,<-prodZ_e]
 congr 1
 split<;>rfl
theorem ord_c {P Q:PL} (h:Eqv P Q):q9 P=q9 Q:=by
 unfold q9
 exact List.filter_congr fun k _=>by rw[h k]
theorem pol_c {P Q:PL} (h:Eqv P Q):polT P=polT Q/\polE P=polE Q:=by
 have e:polL P=polL Q:=by
  unfold polL
  rw[ord_c h]
  have:(fun k=>je (cf P k))=fun k=>je (cf Q k):=funext fun k=>by rw[h k]
  rw[this]
 have e2:canT P=canT Q:=by
  unfold canT
  rw[ord_c h]
  exact List.map_congr_left fun k _=>by rw[h k]
 unfold polT polE
 rw[e,e2];exact⟨rfl,rfl⟩
structure ZOk (Z:ZL):Prop where
 p:(Z.map (·.1)).Pairwise (fun a b=>ordI a b<0)
 c:∀ a∈Z,a.2≠0/\a.2.natAbs<1000000000/\(0<=a.1.1/\0<=a.1.2)/\a.1.1+a.1.2<=16
def pwB:List KI->Bool
 | []=>true
 | a::l=>l.all (fun b=>decide (a.1+a.2<b.1+b.2)||(decide (a.1+a.2=b.1+b.2)&&decide (b.1<a.1)))&&pwB l
theorem pwB_e:∀ {l:List KI},pwB l=true->l.Pairwise (fun a b=>ordI a b<0)
 | [],_=>List.Pairwise.nil
 | a::l,h=>by
  rw[pwB,zj] at h
  refine List.Pairwise.cons (fun b hb=>?_) (pwB_e h.2)
  have:=zr.1 h.1 b hb
  rw[ordI_lt]
  simpa using this
def zokB (Z:ZL):Bool:=pwB (Z.map (·.1))&&Z.all fun a=>decide (a.2≠0/\a.2.natAbs<1000000000/\(0<=a.1.1/\0<=a.1.2)/\a.1.1+a.1.2<=16)
section
variable {Z:ZL}
theorem zokB_e (h:zokB Z=true):ZOk Z:=by
 unfold zokB at h
 rw[zj] at h
 exact⟨pwB_e h.1,fun a ha=>of_decide_eq_true (zr.1 h.2 a ha)⟩
theorem cf_at:∀ {Z:ZL},(Z.map (·.1)).Nodup->∀ a∈Z,cf (Z.map cI) a.1=(a.2:Rat)
 | [],_,a,ha=>by cases ha
 | b::Z,h,a,ha=>by
  rw[zA,List.nodup_cons] at h
  show cf ((b.1,(b.2:Rat))::Z.map cI) a.1=_
  rw[jp]
  rcases zG.1 ha with rfl|ha
  ·rw[if_pos rfl,cf_no (by rw[List.map_map];exact h.1),Rat.add_zero]
  rw[if_neg (fun e=>h.1 (by rw[e];exact zF.2 ⟨a,ha,rfl⟩)),cf_at h.2 a ha,Rat.zero_add]
theorem ZOk.nd (h:ZOk Z):(Z.map (·.1)).Nodup:=pw_nd h.p
theorem ZOk.cf (h:ZOk Z):∀ a∈Z,Go.Lens.Un.cf (Z.map cI) a.1=(a.2:Rat):=cf_at h.nd
theorem ZOk.keys:(Z.map cI).map (·.1)=Z.map (·.1):=by rw[List.map_map];rfl
theorem ZOk.mem (h:ZOk Z) (k:KI):k∈q9 (Z.map cI)↔k∈Z.map (·.1):=by
 rw[mem_ordP]
 constructor
 ·intro g
  by_cases e:k∈Z.map (·.1)
  ·exact e
  exact absurd (cf_no (by rw[ZOk.keys];exact e)) g.2
 intro g
 obtain⟨a,ha,rfl⟩:=zF.1 g
 have:=h.c a ha
 refine⟨aa,?_⟩
 rw[h.cf a ha]
 exact icast_ne this.1
theorem ZOk.ord (h:ZOk Z):q9 (Z.map cI)=Z.map (·.1):=
 List.Perm.eq_of_pairwise (le:=fun a b=>ordI a b<0) (fun a b _ _ h1 h2=>by rw[ordI_lt] at h1 h2;omega) ordP_pw h.p
  ((List.perm_ext_iff_of_nodup (pw_nd ordP_pw) h.nd).2 h.mem)
theorem ZOk.pol (h:ZOk Z):polT (Z.map cI)=(Z.map cI).map trR/\polE (Z.map cI)=0:=by
 have h2:polL (Z.map cI)=false:=by
  unfold polL
  rw[h.ord,List.any_map,List.any_eq_false]
  intro a ha
  have:=h.c a ha
  show ¬je (Go.Lens.Un.cf (Z.map cI) a.1)=true
  rw[h.cf a ha]
  unfold je
  rw[Rat.num_intCast,Rat.den_intCast,lg_0 aa,lg_0 ah];decide
 unfold polT polE
 rw[h2]
 refine⟨?_,rfl⟩
 show canT (Z.map cI)=_
 unfold canT
 rw[h.ord,List.map_map,List.map_map]
 refine List.map_congr_left fun a ha=>?_
 show (⟨txt (Go.Lens.Un.cf (Z.map cI) a.1),a.1.1,a.1.2⟩:Trm)=_
 rw[h.cf a ha];rfl
end
def crB (a j:Nat):Bool:=(List.range (Int.toNat (((a:Int)-max ((a:Int)-2*(j:Int)) (0-((a:Int)-2*(j:Int)))) / 2+1))).all fun s=>decide (crR (a:Int) (max ((a:Int)-2*(j:Int)) (0-((a:Int)-2*(j:Int)))) (s:Int)=((crZ (a:Int) (max ((a:Int)-2*(j:Int)) (0-((a:Int)-2*(j:Int)))) (s:Int):Int):Rat))
theorem zcr_b:allM crB=true:=ae
theorem zeq_b:allM (fun a j=>eqZ (zeZ (a:Int) (max ((a:Int)-2*(j:Int)) (0-((a:Int)-2*(j:Int)))) ((a:Int)-2*(j:Int))) (zt a j))=true:=ae
end Go.Lens.Tb
end
