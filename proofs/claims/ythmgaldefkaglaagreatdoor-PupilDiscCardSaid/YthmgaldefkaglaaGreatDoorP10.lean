/- A part of the proof of PupilDiscCardSaid, without conditions. -/
import Derived.Test.YthmgaldefkaglaaGreatDoorP9
set_option linter.unusedVariables false
set_option linter.unusedSimpArgs false
set_option linter.unusedSectionVars false
set_option maxHeartbeats 4000000
section
namespace Go.Lens.Tb
open Go.Proofs Go.Lens.Un
variable [Lz] [Dn]
set_option maxRecDepth 100000
def wtT:List (List Nat):=[[10321920,2580480,1290240,806400,564480,423360,332640,270270,225225],[2580480,430080,161280,80640,47040,30240,20790,15015],[1290240,161280,48384,20160,10080,5670,3465],[806400,80640,20160,7200,3150,1575],[564480,47040,10080,3150,1225],[423360,30240,5670,1575],[332640,20790,3465],[270270,15015],[225225]]
def wtN (k:KI):Nat:=bif k.1.toNat%2==0&&k.2.toNat%2==0 then (wtT.getD (k.1.toNat / 2) []).getD (k.2.toNat / 2) 0 else 0
theorem wt_b:((List.range 17).all fun i=>(List.range (17-i)).all fun j=>decide (dF ((i:Int),(j:Int))*((10321920:Nat):Rat)=((wtN ((i:Int),(j:Int)):Nat):Rat)))=true:=ae
theorem wt_e {k:KI} (h:(0<=k.1/\0<=k.2)/\k.1+k.2<=16):dF k*((10321920:Nat):Rat)=((wtN k:Nat):Rat):=by
 have g:=of_decide_eq_true (zr.1 (zr.1 wt_b k.1.toNat (List.mem_range.2 aa)) k.2.toNat (List.mem_range.2 aa))
 rwa [show ((k.1.toNat:Nat):Int)=k.1 by omega,show ((k.2.toNat:Nat):Int)=k.2 by omega] at g
def wtZ (P:ZL):ZL:=P.map fun p=>(p.1,p.2*((wtN p.1:Nat):Int))
def ipN (A B:ZL):Int:=((wtZ (prodZ A B)).map (·.2)).sum
def diB (A B:ZL):Bool:=decide (Un.l1 A<=4000)&&decide (Un.l1 B<=4000)&&(prodZ A B).all (fun p=>decide ((0<=p.1.1/\0<=p.1.2)/\p.1.1+p.1.2<=16))&&decide (Un.l1 (wtZ (prodZ A B))<=274877906943)
abbrev ipQ (A B:ZL):Rat:=lin dF (qO (A.map cI) (B.map cI))
section
variable {A B Z:ZL}
theorem wt_Z (P:ZL) (h:∀ p∈P,(0<=p.1.1/\0<=p.1.2)/\p.1.1+p.1.2<=16):wP 10321920 (P.map cI)=(wtZ P).map cI:=by
 unfold wP wtZ
 rw[List.map_map,List.map_map]
 refine List.map_congr_left fun p hp=>?_
 simp only[Function.comp,cI]
 rw[wt_e (h p hp),Rat.intCast_mul];rfl
theorem lin1_s:∀ P:ZL,lin (fun _=>1) (P.map cI)=(((P.map (·.2)).sum:Int):Rat)
 | []=>rfl
 | a::P=>by
  show (a.2:Rat)*1+lin (fun _=>1) (P.map cI)=(((a.2+(P.map (·.2)).sum:Int)):Rat)
  rw[lin1_s P,Rat.mul_one,Rat.intCast_add]
theorem dio (h:diB A B=true):DiOk (A.map cI) (B.map cI)/\ipQ A B*((10321920:Nat):Rat)=((ipN A B:Int):Rat):=by
 unfold diB at h
 simp only[zj,zf] at h
 obtain⟨⟨⟨h1,h2⟩,h3⟩,h4⟩:=h
 have hk:∀ p∈prodZ A B,(0<=p.1.1/\0<=p.1.2)/\p.1.1+p.1.2<=16:=fun p hp=>by
  have:=zr.1 h3 p hp
  simpa using this
 have e:wP 10321920 (qO (A.map cI) (B.map cI))=(wtZ (prodZ A B)).map cI:=by rw[prodZ_e,wt_Z _ hk]
 refine⟨⟨⟨A,rfl,h1⟩,⟨B,rfl,h2⟩,fun k hk'=>?_,⟨_,e,h4⟩⟩,?_⟩
 ·rw[prodZ_e,List.map_map] at hk'
  obtain⟨p,hp,rfl⟩:=zF.1 hk'
  exact (hk p hp).2
 rw[<-lin_wP,e,lin1_s];rfl
end
def gzB (Z:ZL):Bool:=zokB Z&&decide (Z.length<=1000)&&((Z.map cI).map trR).all (fun t=>decide (t.c.length<=18))&&decide (qQ ((Z.map cI).map trR)=0/\plF ((Z.map cI).map trR)=Z.map cI)
def turZ (Z:ZL):ZL:=Z.map fun a=>((a.1.2,a.1.1),if a.1.2%2=1 then -a.2 else a.2)
def insZ (a:KI×Int):ZL->ZL
 | []=>[a]
 | b::l=>bif decide (a.1.1+a.1.2<b.1.1+b.1.2)||(decide (a.1.1+a.1.2=b.1.1+b.1.2)&&decide (b.1.1<a.1.1)) then a::b::l else b::insZ a l
def zu (a j:Nat):ZL:=(turZ (zt a j)).foldr insZ []
theorem turZ_e (Z:ZL):turP (Z.map cI)=(turZ Z).map cI:=by
 unfold turP turZ
 rw[List.map_map,List.map_map]
 refine List.map_congr_left fun a _=>?_
 show ((a.1.2,a.1.1),if a.1.2%2=1 then -((a.2:Int):Rat) else ((a.2:Int):Rat))=((a.1.2,a.1.1),(((if a.1.2%2=1 then -a.2 else a.2):Int):Rat))
 by_cases h:a.1.2%2=1
 ·rw[if_pos h,if_pos h,Rat.intCast_neg]
 rw[if_neg h,if_neg h]
def wnN (a j b k:Nat):Int:=bif (a==b)&&(j==k) then (bif 2*j==a then 10321920 / ((a:Int)+1) else 10321920 / ((a:Int)+1) / 2) else 0
theorem gdt_b:allM (fun a j=>gzB (zt a j))=true:=ae
theorem gdu_b:allM (fun a j=>gzB (zu a j)&&eqZ (turZ (zt a j)) (zu a j))=true:=ae
def prs (a:Nat):Bool:=(List.range (a+1)).all fun j=>allM fun b k=>diB (zt a j) (zt b k)&&decide (ipN (zt a j) (zt b k)=wnN a j b k)
theorem prs_0:(prs 0&&prs 1&&prs 2&&prs 3&&prs 4)=true:=ae
theorem prs_1:(prs 5&&prs 6)=true:=ae
theorem prs_2:prs 7=true:=ae
theorem prs_3:prs 8=true:=ae
theorem tur_b:allM (fun a j=>diB (zu a j) (zu a j)&&diB (zu a j) (zt a j)&&diB (zu a j) (zt a (a-j))&&decide (ipN (zu a j) (zu a j)=wnN a j a j)&&decide ((ipN (zu a j) (zt a (a-j))).natAbs<=10321920)&&
  (bif a%2==1 then decide (ipN (zu a j) (zt a j)=0)&&decide ((((ipN (zu a j) (zt a (a-j))).natAbs:Nat):Int)=wnN a j a j) else decide ((((ipN (zu a j) (zt a j)).natAbs:Nat):Int)=wnN a j a j)))=true:=ae
end Go.Lens.Tb
end
