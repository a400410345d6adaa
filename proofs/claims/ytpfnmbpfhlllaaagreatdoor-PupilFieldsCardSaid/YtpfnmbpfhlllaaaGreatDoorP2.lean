/- A part of the proof of PupilFieldsCardSaid, without conditions. -/
import Derived.Test.YtpfnmbpfhlllaaaGreatDoorP1
import Derived.Laws.Cover3
import Derived.LoopN
import Derived.Scope
import Derived.Orders
import Derived.Laws.Externs
import Derived.Lib.Bytealg
import Derived.Lib.MakeNoZero
import Derived.Lib.ItoaNum
import Derived.Lib.LaidTab
import Derived.RangeFuncRecord
import Derived.RangeFuncLeaves
import Derived.OrdersIn
import Derived.LoopNIn
import Derived.Test.YtpfnmbpfhlllaaaGreatDoorProg
import Derived.KernelRfl
import Derived.MapKept
set_option linter.unusedVariables false
set_option linter.unusedSimpArgs false
set_option linter.unusedSectionVars false
set_option maxHeartbeats 4000000
section
namespace Go.Lens
variable [Lz]
section
variable {P:Program} {Y:Tab} [qH P Y] {G:Gh} {w:World} {ρ:Operand->Value} {ev:Operand->DV} {look fl:Nat->Option MO}
theorem refs_getD {ds:List DV} {i h:Nat} (hh:h∈(ds.getD i .dead).refs):h∈DV.qL ds:=by
 rw[ze] at hh
 cases e:ds[i]? with
 | none=>rw[e] at hh;simp[DV.refs] at hh
 | some d=>rw[e] at hh;exact jz.2 ⟨d,Xe e,by simpa using hh⟩
theorem refsL_sub {ds:List DV} {c n h:Nat} (hh:h∈DV.qL ((ds.drop c).take n)):h∈DV.qL ds:=by
 obtain⟨d,hd,hk⟩:=jz.1 hh
 exact jz.2 ⟨d,zw (zu hd),hk⟩
theorem loadQ_refs {t:TypeId} {d r:DV} {s:Bool} (h:Z4 Y t look d=some (s,r)):∀ k∈r.refs,∃ k' o,look k'=some o/\k∈o.refs:=by
 intro k hk
 unfold Z4 at h
 split at h
 ·split at h
  ·split at h<;>(cases h;simp[DV.refs] at hk)
  ·split at h
   ·rename_i ds hl
    split at h
    ·cases h;exact⟨_,_,hl,refsL_sub (refs_mkAgg hk)⟩
    cases h;exact⟨_,_,hl,refs_getD hk⟩
   ·split at h<;>(cases h;simp[DV.refs] at hk)
   cases h
  ·split at h
   ·split at h
    ·split at h<;>(cases h;simp[DV.refs] at hk)
    cases h
   cases h
  cases h
 cases h
theorem fieldAddrQ_refs {t:TypeId} {f:Nat} {d r:DV} {s:Bool} (h:kf Y t f look d=some (s,r)):∀ k∈r.refs,k∈d.refs:=by
 intro k hk
 unfold kf at h
 split at h
 ·split at h
  ·split at h
   ·cases h;simpa [DV.refs] using hk
   ·split at h
    ·cases h;simpa [DV.refs] using hk
    cases h
   ·cases h;simp[DV.refs] at hk
   cases h
  cases h
 cases h
theorem fieldQ_refs {t:TypeId} {f:Nat} {d r:DV} {s:Bool} (h:fieldQ Y t f d=some (s,r)):∀ k∈r.refs,k∈d.refs:=by
 intro k hk
 unfold fieldQ at h
 split at h
 ·split at h
  ·cases h;simp[DV.refs] at hk
  ·cases h;simp[DV.refs] at hk
  ·cases h;exact refsL_sub (refs_mkAgg hk)
  ·cases h;exact refs_getD hk
  cases h
 cases h
theorem Z5 {t:TypeId} {x i r:DV} {s:Bool} (h:jV Y t look x i=some (s,r)):∀ k∈r.refs,k∈x.refs:=by
 intro k hk
 unfold jV at h
 split at h
 ·split at h
  ·split at h
   ·cases h;simp[DV.refs] at hk
   ·split at h
    ·split at h
     ·cases h;simpa [DV.refs] using hk
     cases h
    ·split at h
     ·cases h;simp[DV.refs] at hk
     cases h
    cases h
   cases h
  cases h
 ·split at h
  ·split at h
   ·cases h;simpa [DV.refs] using hk
   ·cases h;simp[DV.refs] at hk
   cases h
  cases h
 cases h
theorem indexQ_refs {t:TypeId} {x i r:DV} {s:Bool} (h:indexQ Y t x i=some (s,r)):r.refs=[]:=by
 unfold indexQ at h
 split at h
 ·cases h;rfl
 ·split at h
  ·cases h;rfl
  cases h
 cases h
theorem sliceQ_refs {t:TypeId} {x r:DV} {lo hi mx:Option DV} {s:Bool} (h:Za Y t look x lo hi mx=some (s,r)):∀ k∈r.refs,k∈x.refs:=by
 intro k hk
 unfold Za at h
 split at h
 ·split at h
  ·cases h;simp[lit,DV.refs] at hk
  cases h
 ·split at h
  ·split at h
   ·cases h;simp[DV.refs] at hk
   ·cases h;simp[DV.refs] at hk
   ·split at h
    ·split at h
     ·split at h
      ·grind
      cases h;simpa [DV.refs] using hk
     cases h
    ·split at h
     ·cases h;simp[DV.refs] at hk
     cases h
    cases h
   ·split at h
    ·split at h
     ·cases h;simp[DV.refs] at hk
     cases h
    cases h
   cases h
  cases h
 cases h
theorem nilQ_refs {op:BinOp} {t:TypeId} {x y r:DV} {s:Bool} (h:nilQ Y op t x y=some (s,r)):r.refs=[]:=by
 unfold nilQ at h
 split at h
 ·split at h
  ·split at h<;>first|(cases h;rfl)|cases h
  cases h
 cases h
theorem binQ_refs {op:BinOp} {t:TypeId} {x y r:DV} {s:Bool} (h:binQ Y op t x y=some (s,r)):r.refs=[]:=by
 unfold binQ at h
 split at h
 ·split at h
  ·obtain⟨p,_,e⟩:=QZ.1 h;cases e;rfl
  ·obtain⟨p,_,e⟩:=QZ.1 h;cases e;rfl
  split at h
  ·obtain⟨p,_,e⟩:=QZ.1 h;cases e;rfl
  cases h
 ·obtain⟨p,_,e⟩:=QZ.1 h;cases e;rfl
 ·split at h<;>first|(cases h;rfl)|cases h
 ·split at h
  ·split at h<;>first|(cases h;rfl)|cases h
  cases h
 cases h
theorem unQ_refs {op:UnOp} {x r:DV} {s:Bool} (h:unQ op x=some (s,r)):r.refs=[]:=by
 unfold unQ at h
 split at h<;>first|(cases h;rfl)|cases h
theorem convQ_refs {t u:TypeId} {x r:DV} {s:Bool} (h:convQ Y t u x=some (s,r)):r.refs=[]:=by
 unfold convQ at h
 split at h<;>first|(cases h;rfl)|cases h
theorem lenQ_refs {t:TypeId} {x r:DV} {s:Bool} (h:lenQ Y t look x=some (s,r)):r.refs=[]:=by
 unfold lenQ at h
 split at h
 ·split at h<;>first|(cases h;rfl)|cases h
 ·obtain⟨p,_,e⟩:=QZ.1 h;cases e;rfl
 ·cases h;rfl
 ·split at h<;>first|(cases h;rfl)|cases h
 cases h
theorem maxQ2_refs {b:Bool} {ds:List DV} {r:DV} {s:Bool} (h:maxQ2 b ds=some (s,r)):r.refs=[]:=by
 unfold maxQ2 at h
 split at h
 ·split at h
  ·cases h;rfl
  cases h
 cases h
theorem funcQ_refs {f:Fn} {a b:List DV} {r:DV} {s:Bool} (h:funcQ f a b=some (s,r)):∀ k∈r.refs,k∈DV.qL a\/k∈DV.qL b:=by
 intro k hk
 unfold funcQ at h
 split at h
 ·split at h
  ·cases h;simp[DV.refs] at hk
  cases h;simpa [DV.refs] using hk
 cases h
theorem lookupQ_refs {t:TypeId} {x i r:DV} {ok s:Bool} (h:ZS Y t x i ok=some (s,r)):r.refs=[]:=by
 unfold ZS at h
 split at h
 ·split at h
  ·split at h
   ·cases h
    cases ok<;>simp[DV.refs,DV.qL,lit]
   cases h
  cases h
 cases h
theorem refsL_map {xs:List Operand} {k:Nat} (h:k∈DV.qL (xs.map ev)):∃ x,k∈(ev x).refs:=by
 obtain⟨d,hd,hk⟩:=jz.1 h
 grind
theorem qv_refs {op:Op} {r:DV} {s:Bool} (h:qv Y op ev look=some (s,r)):∀ k∈r.refs,Src ev look k:=by
 intro k hk
 have nil:r.refs=[]->Src ev look k:=fun e=>by rw[e] at hk;cases hk
 cases op<;>simp only[qv] at h<;>try (cases h;done)
 case move x=>
  split at h
  ·cases h
  cases h;exact .inl ⟨x,hk⟩
 case assign x=>
  split at h
  ·cases h
  cases h;exact .inl ⟨x,hk⟩
 case pick c a b=>
  split at h
  ·split at h
   ·cases h;exact nil rfl
   cases h
  cases h
 case load t a=>exact .inr (loadQ_refs h k hk)
 case nilCheck x=>
  split at h
  ·rename_i he;cases h;exact .inl ⟨x,by rw[he];exact hk⟩
  ·rename_i he
   split at h
   ·cases h;exact .inl ⟨x,by rw[he];exact hk⟩
   cases h
  ·cases h;exact nil rfl
  cases h
 case binOp op t x y yt=>
  split at h
  ·rename_i r' hr;rw[h] at hr;exact nil (nilQ_refs hr)
  exact nil (binQ_refs h)
 case unOp op t x=>exact nil (unQ_refs h)
 case convert a b x=>exact nil (convQ_refs h)
 case makeFunc fn first caps=>
  rcases funcQ_refs h k hk with e|e
  ·exact .inl (refsL_map e)
  exact .inl (refsL_map e)
 case slice t x lo hi mx=>exact .inl ⟨x,sliceQ_refs h k hk⟩
 case fieldAddr t x f=>exact .inl ⟨x,fieldAddrQ_refs h k hk⟩
 case field t x f=>exact .inl ⟨x,fieldQ_refs h k hk⟩
 case indexAddr t x i=>exact .inl ⟨x,Z5 h k hk⟩
 case index t x i=>exact nil (indexQ_refs h)
 case lookup t x i ok=>exact nil (lookupQ_refs h)
 case extract x i=>
  split at h
  ·rename_i ds hd
   split at h
   ·rename_i d he
    cases h
    exact .inl ⟨x,by rw[hd];exact jz.2 ⟨_,Xe he,hk⟩⟩
   cases h
  cases h
 case call c=>
  split at h
  ·exact nil (lenQ_refs h)
  ·exact nil (maxQ2_refs h)
  ·exact nil (maxQ2_refs h)
  cases h
def jT (Y:Tab) (t:TypeId) (look:Nat->Option MO) (x i:DV):Option (Bool×DV):=
 match x with
 | .atrunc h v m=>match look h with
  | some (.arr v' sz' _ _)=>match Y.underlying t,i with
   | some (.slice e),.pv (.lit (.int _ n))=>match szT Y e with
    | some sz=>if v=v'/\sz=sz' then some (decide (0<=n/\n<m),.eref h v n.toNat 0) else none
    | none=>none
   | _,_=>none
  | _=>match pvOf look (.atrunc h v m) with
   | some p=>jV Y t look (.pv p) i
   | none=>none
 | .awin h v o m=>match look h with
  | some (.arr v' sz' _ _)=>match Y.underlying t,i with
   | some (.slice e),.pv (.lit (.int _ n))=>match szT Y e with
    | some sz=>if v=v'/\sz=sz' then some (decide (0<=n/\n<m),.eref h v (o+n.toNat) 0) else none
    | none=>none
   | _,_=>none
  | _=>none
 | x=>jV Y t look x i
theorem ZB (S:Sees G w ρ ev look) {t:TypeId} {a i d:DV} {u k:Value} (h:jT Y t look a i=some (true,d)) (hu:qt G (G.rd w) a u)
  (hk:qt G (G.rd w) i k):∃ r,(Instr.indexAt t u k).run P w=.ok r w/\qt G (G.rd w) d r:=by
 unfold jT at h
 split at h
 ·rename_i hh v m
  split at h
  ·rename_i v' sz' T0 es hl
   split at h
   ·rename_i e ik n ht
    obtain⟨rfl,_⟩:=qx hk
    split at h
    ·rename_i sz hsz
     split at h
     ·rename_i hq
      obtain⟨rfl,rfl⟩:=hq
      simp only[zh,zx,zf] at h
      obtain⟨⟨h0,h1⟩,rfl⟩:=h
      obtain⟨k1,k2,k3,k4,k5,k6,k7⟩:=S.look _ _ hl
      simp only[qt] at hu
      obtain⟨hm,hv⟩:=hu.2 k2
      subst hv
      rcases k7 with ⟨e1,e2⟩|⟨b,c,e1,_⟩
      ·omega
      rw[e1]
      refine⟨.pointer (some ⟨b,0+n.toNat*sz,none⟩),?_,?_⟩
      ·simp only[Instr.indexAt,qp,asIntOf,qq,qF ht,qo,h0,h1,WB,ql,Sem.run_ite,qX hsz,Addr.add_lit]
      simp only[qt]
      exact⟨aa,fun _=>⟨b,0,e1,by rw[k3];rfl⟩⟩
     cases h
    cases h
   cases h
  split at h
  ·rename_i p hp
   exact Zz (P:=P) S h aH hk
  cases h
 ·rename_i hh v o m
  split at h
  ·rename_i v' sz' T0 es hl
   split at h
   ·rename_i e ik n ht
    obtain⟨rfl,_⟩:=qx hk
    split at h
    ·rename_i sz hsz
     split at h
     ·rename_i hq
      obtain⟨rfl,rfl⟩:=hq
      simp only[zh,zx,zf] at h
      obtain⟨⟨h0,h1⟩,rfl⟩:=h
      obtain⟨k1,k2,k3,k4,k5,k6,k7⟩:=S.look _ _ hl
      simp only[qt] at hu
      obtain⟨hm,b,off,e1,hv⟩:=hu.2 k2
      subst hv
      rw[k3]
      refine⟨.pointer (some ⟨b,off+o*sz+n.toNat*sz,none⟩),?_,?_⟩
      ·simp only[Instr.indexAt,qp,asIntOf,qq,qF ht,qo,h0,h1,WB,ql,Sem.run_ite,qX hsz,Addr.add_lit]
      simp only[qt]
      exact⟨aa,fun _=>⟨b,off,e1,by rw[k3,Wa];simp[Kk]⟩⟩
     cases h
    cases h
   cases h
  cases h
 exact Zz (P:=P) S h hu hk
theorem indexAddrW_refs {t:TypeId} {x i r:DV} {s:Bool} (h:jT Y t look x i=some (s,r)):∀ k∈r.refs,k∈x.refs:=by
 intro k hk
 unfold jT at h
 split at h
 ·split at h
  ·split at h
   ·split at h
    ·split at h
     ·cases h;simpa [DV.refs] using hk
     cases h
    cases h
   cases h
  split at h
  ·have:=Z5 h k hk;simp[DV.refs] at this
  cases h
 ·split at h
  ·split at h
   ·split at h
    ·split at h
     ·cases h;simpa [DV.refs] using hk
     cases h
    cases h
   cases h
  cases h
 exact Z5 h k hk
def kU (Y:Tab) (t:TypeId) (look:Nat->Option MO) (x:DV) (lo hi mx:Option DV):Option (Bool×DV):=
 match x with
 | .atrunc h v m=>match look h with
  | some (.arr v' _ _ _)=>match Y.underlying t,lo,bound hi,mx with
   | some (.slice e),none,some hi,none=>match szT Y e with
    | some _=>if v=v' then
      (match hi with
       | none=>some (true,.atrunc h v m)
       | some k=>some (decide (0<=k/\k<=m),.atrunc h v k.toNat)) else none
    | none=>none
   | _,_,_,_=>none
  | _=>match pvOf look (.atrunc h v m) with
   | some p=>Za Y t look (.pv p) lo hi mx
   | none=>none
 | .nils=>match Y.underlying t,bound lo,bound hi,mx with
  | some (.slice e),some lo,some hi,none=>match szT Y e with
   | some _=>some (decide (lo.getD 0=0/\hi.getD 0=0),.nils)
   | none=>none
  | _,_,_,_=>none
 | .aref h v=>match look h,Y.underlying t,bound lo,bound hi,mx with
  | some (.arr v' sz' _ es),some (.slice e),some (some l),some (some k),none=>match szT Y e with
   | some sz=>if v=v'/\sz=sz' then some (decide (0<=l/\l<k/\k<=es.length),.awin h v l.toNat (k.toNat-l.toNat)) else none
   | none=>none
  | _,_,_,_,_=>Za Y t look (.aref h v) lo hi mx
 | x=>Za Y t look x lo hi mx
theorem sliceW_sound (S:Sees G w ρ ev look) {t:TypeId} {a d:DV} {u:Value} {lo hi mx:Option DV} {vlo vhi vmx:Option Value}
  (h:kU Y t look a lo hi mx=some (true,d)) (hu:qt G (G.rd w) a u)
  (hlo:ORel G (G.rd w) lo vlo) (hhi:ORel G (G.rd w) hi vhi) (hmx:ORel G (G.rd w) mx vmx) :
  ∃ r,(Instr.sliceAt t u vlo vhi vmx).run P w=.ok r w/\qt G (G.rd w) d r:=by
 unfold kU at h
 split at h
 ·rename_i hh v m
  split at h
  ·rename_i v' sz' T0 es hl
   split at h
   ·rename_i e hi' ht hb
    have B2:=j4 hb hhi
    have hm0:vmx=none:=by cases vmx<;>simp_all [ORel]
    have hl0:vlo=none:=by cases vlo<;>simp_all [ORel]
    subst hm0
    subst hl0
    rw[Zk av ht]
    split at h
    ·rename_i sz hsz
     split at h
     ·rename_i hq
      subst hq
      obtain⟨k1,k2,k3,k4,k5,k6,k7⟩:=S.look _ _ hl
      simp only[qt] at hu
      obtain⟨hm,hv⟩:=hu.2 k2
      subst hv
      have B1:OInt (none:Option Int) (none:Option Value):=by simp[OInt]
      have run:0<=hi'.getD (m:Int)->hi'.getD (m:Int)<=(m:Int)->
        (Instr.slice t (.slice (G.ρ hh).addr m (G.ρ hh).cap) none vhi none).run P w=.ok (.slice (G.ρ hh).addr (hi'.getD (m:Int)).toNat (G.ρ hh).cap) w:=by
       intro b2 b3
       have hb:=jU (P:=P) (w:=w) (isS:=true) (len:=m) (cap:=(G.ρ hh).cap) B1 B2 ao (by simpa using b2) aa
       simp only[Instr.slice,qp,qF ht,qo,hb,qX hsz,qq]
       simp only[Jo,JZ,KU,KQ]
       congr 2
       split
       ·rfl
       cases (G.ρ hh).addr<;>simp[Addr.add]
      split at h
      ·cases h
       refine⟨_,run ao ao,?_⟩
       simp only[qt]
       grind
      rename_i k
      simp only[zh,zx,zf] at h
      obtain⟨⟨b1,b2⟩,rfl⟩:=h
      refine⟨_,run aw (by simpa using b2),?_⟩
      simp only[qt]
      grind
     cases h
    cases h
   cases h
  split at h
  ·rename_i p hp
   exact sliceQ_sound (P:=P) S h aH hlo hhi hmx
  cases h
 ·split at h
  ·rename_i e lo' hi' ht hl hh
   have B1:=j4 hl hlo
   have B2:=j4 hh hhi
   have hm0:vmx=none:=by cases vmx<;>simp_all [ORel]
   subst hm0
   rw[Zk av ht]
   split at h
   ·rename_i sz hsz
    simp only[zh,zx,zf] at h
    obtain⟨⟨b1,b2⟩,rfl⟩:=h
    simp only[qt] at hu
    subst hu
    have hb:=jU (P:=P) (w:=w) (isS:=true) (len:=0) (cap:=0) B1 B2 aa aJ aJ
    refine⟨.slice none 0 0,?_,by simp only[qt]⟩
    simp only[Instr.slice,qp,qF ht,qo,hb,qX hsz,qq]
    grind
   cases h
  cases h
 ·rename_i hh v
  split at h
  ·rename_i v' sz' T0 es e l k hlk ht hl hh2
   have B1:=j4 hl hlo
   have B2:=j4 hh2 hhi
   have hm0:vmx=none:=by cases vmx<;>simp_all [ORel]
   subst hm0
   rw[Zk av ht]
   split at h
   ·rename_i sz hsz
    split at h
    ·rename_i hq
     obtain⟨rfl,rfl⟩:=hq
     simp only[zh,zx,zf] at h
     obtain⟨⟨b1,b2,b3⟩,rfl⟩:=h
     obtain⟨k1,k2,k3,k4,k5,k6,k7⟩:=S.look _ _ hlk
     simp only[qt] at hu
     have hv:=hu.2 k2
     subst hv
     rcases k7 with ⟨e1,e2⟩|⟨b,c,e1,_⟩
     ·omega
     have hb:=jU (P:=P) (w:=w) (isS:=true) (len:=(G.ρ hh).len) (cap:=(G.ρ hh).cap) B1 B2 aw (by simp only[zO];omega) (by simp only[zO];omega)
     rw[e1]
     refine⟨.slice (some ⟨b,0+l.toNat*sz,none⟩) (k.toNat-l.toNat) ((G.ρ hh).cap-l.toNat),?_,?_⟩
     ·simp only[Instr.slice,qp,qF ht,qo,hb,qX hsz,qq,zO]
      rw[WJ aa]
      simp[Addr.add_lit]
     simp only[qt]
     exact⟨aa,fun _=>⟨aa,b,0,e1,by rw[k3]⟩⟩
    cases h
   cases h
  exact sliceQ_sound (P:=P) S h hu hlo hhi hmx
 exact sliceQ_sound (P:=P) S h hu hlo hhi hmx
theorem sliceW_refs {t:TypeId} {x r:DV} {lo hi mx:Option DV} {s:Bool} (h:kU Y t look x lo hi mx=some (s,r)):∀ k∈r.refs,k∈x.refs:=by
 intro k hk
 unfold kU at h
 split at h
 ·split at h
  ·split at h
   ·split at h
    ·split at h
     ·split at h
      ·grind
      cases h;simpa [DV.refs] using hk
     cases h
    cases h
   cases h
  split at h
  ·have:=sliceQ_refs h k hk;simp[DV.refs] at this
  cases h
 ·grind
 ·split at h
  ·split at h
   ·split at h
    ·cases h;simpa [DV.refs] using hk
    cases h
   cases h
  exact sliceQ_refs h k hk
 exact sliceQ_refs h k hk
def isNilS (look:Nat->Option MO):DV->Option Bool
 | .nils=>some true
 | .pv (.lit (.slice none 0 0))=>some true
 | .pv (.slice (_::_))=>some false
 | .aref h v=>match look h with
  | some (.arr v' _ _ (_::_))=>if v=v' then some false else none
  | some (.farr v' (_::_))=>if v=v' then some false else none
  | _=>none
 | _=>none
theorem isNilS_sound (S:Sees G w ρ ev look) {d:DV} {b:Bool} {v:Value} (h:isNilS look d=some b) (hv:qt G (G.rd w) d v):∃ a n c,v=.slice a n c/\a.isNone=b:=by
 unfold isNilS at h
 split at h
 ·cases h
  simp only[qt] at hv
  grind
 ·cases h
  simp only[qt,qI] at hv
  grind
 ·cases h
  simp only[qt,qI] at hv
  grind
 ·rename_i hh vv
  split at h
  ·rename_i v' z T e es hl
   split at h
   ·rename_i hq
    subst hq
    cases h
    obtain⟨k1,k2,k3,k4,k5,k6,k7⟩:=S.look _ _ hl
    simp only[qt] at hv
    grind
   cases h
  ·rename_i v' e es hl
   split at h
   ·rename_i hq
    subst hq
    cases h
    obtain⟨k1,k2,k4,k5,k7⟩:=S.look _ _ hl
    simp only[qt] at hv
    grind
   cases h
  cases h
 cases h
def sliceNilQ (Y:Tab) (op:BinOp) (t:TypeId) (look:Nat->Option MO) (x:DV):Option (Bool×DV):=
 match Y.underlying t,isNilS look x,op with
 | some (.slice _),some b,.eql=>some (true,lit (.bool b))
 | some (.slice _),some b,.neq=>some (true,lit (.bool (!b)))
 | _,_,_=>none
def Z2:Operand->Bool
 | .const .nilIface=>true
 | _=>false
def isNilI:DV->Option Bool
 | .pv (.lit .nilIface)=>some true
 | .pv (.iface _ _)=>some false
 | _=>none
def ifaceNilQ (Y:Tab) (op:BinOp) (t:TypeId) (x:DV):Option (Bool×DV):=
 match Y.underlying t,isNilI x,op with
 | some (.interface _),some b,.eql=>some (true,lit (.bool b))
 | some (.interface _),some b,.neq=>some (true,lit (.bool (!b)))
 | _,_,_=>none
theorem equalIn_iface {t:TypeId} {ms:Array (String×TypeId)} (h:Y.underlying t=some (.interface ms)) (n:Nat) :
  (Op.equalIn (n+1) t .nilIface .nilIface).run P w=.ok true w/\∀ ty v,(Op.equalIn (n+1) t (.iface ty v) .nilIface).run P w=.ok false w:=
 ⟨by simp[Op.equalIn,qF h],fun ty v=>by simp[Op.equalIn,qF h]⟩
theorem ifaceNil_run {t:TypeId} {x:Operand} {b:Bool} {ms:Array (String×TypeId)} (ht:Y.underlying t=some (.interface ms)) (hb:isNilI (ev x)=some b) (S:Sees G w ρ ev look) :
  (Op.equal t (ρ x) .nilIface).run P w=.ok b w/\(∀ op,eqGuard op t x (.const .nilIface) (ρ x) .nilIface=pure ())/\
   binOp .eql t (ρ x) .nilIface=(do pure (.bool (<-Op.equal t (ρ x) .nilIface)))/\binOp .neq t (ρ x) .nilIface=(do pure (.bool (!(<-Op.equal t (ρ x) .nilIface)))):=by
 have hX:=S.ev x
 unfold isNilI at hb
 split at hb
 ·rename_i hx
  cases hb
  rw[hx] at hX
  rw[(qx hX).1]
  exact⟨(equalIn_iface ht 9999).1,fun op=>by cases op<;>first|rfl|(cases x<;>rfl),rfl,rfl⟩
 ·rename_i ty p hx
  cases hb
  rw[hx] at hX
  simp only[qt,qI] at hX
  obtain⟨u,hu,_⟩:=hX
  rw[hu]
  exact⟨(equalIn_iface ht 9999).2 ty u,fun op=>by cases op<;>rfl,rfl,rfl⟩
 cases hb
def binW (Y:Tab) (op:BinOp) (t:TypeId) (look:Nat->Option MO) (cn:Bool) (x y:DV):Option (Bool×DV):=
 match y with
 | .nils=>sliceNilQ Y op t look x
 | .pv (.lit .nilIface)=>bif cn then ifaceNilQ Y op t x else none
 | y=>match nilQ Y op t x y with
  | some r=>some r
  | none=>match samePQ Y op t x y with
   | some r=>some r
   | none=>binQ Y op t x y
theorem binW_sound (S:Sees G w ρ ev look) {op:BinOp} {t:TypeId} {x y:Operand} {d:DV} (h:binW Y op t look (Z2 y) (ev x) (ev y)=some (true,d)) :
  ∃ r,(do eqGuard op t x y (ρ x) (ρ y);binOp op t (ρ x) (ρ y):Sem Value).run P w=.ok r w/\qt G (G.rd w) d r:=by
 unfold binW at h
 split at h
 ·rename_i hy
  have hY:=S.ev y
  rw[hy] at hY
  simp only[qt] at hY
  unfold sliceNilQ at h
  split at h
  ·rename_i e b ht hb
   cases h
   obtain⟨a,n,c,hv,ha⟩:=isNilS_sound S hb (S.ev x)
   refine⟨.bool b,?_,qG rfl⟩
   have he:=run_equal_slice_nil (P:=P) w t e a n c (qH.und P ht)
   rw[hv,hY,eqGuard_at_slice]
   simp only[binOp,qp,qq,he,qo,ha]
  ·rename_i e b ht hb
   cases h
   obtain⟨a,n,c,hv,ha⟩:=isNilS_sound S hb (S.ev x)
   refine⟨.bool (!b),?_,qG rfl⟩
   have he:=run_neq_slice_nil (P:=P) w t e a n c (qH.und P ht)
   rw[hv,hY,eqGuard_at_slice]
   grind
  cases h
 ·rename_i hy
  have hY:=S.ev y
  rw[hy] at hY
  have hY':=(qx hY).1
  cases hc:Z2 y with
  | false=>rw[hc] at h;cases h
  | true=>
   rw[hc] at h
   simp only[Wy] at h
   have hyc:y=.const .nilIface:=by
    unfold Z2 at hc
    grind
   rw[hyc] at hY' ⊢
   unfold ifaceNilQ at h
   split at h
   ·rename_i ms b ht hb
    cases h
    obtain⟨k1,k2,k3,k4⟩:=ifaceNil_run (P:=P) ht hb S
    refine⟨.bool b,?_,qG rfl⟩
    rw[hY',k2,k3]
    simp only[qp,qq,qo,k1]
   ·rename_i ms b ht hb
    cases h
    obtain⟨k1,k2,k3,k4⟩:=ifaceNil_run (P:=P) ht hb S
    refine⟨.bool (!b),?_,qG rfl⟩
    rw[hY',k2,k4]
    simp only[qp,qq,qo,k1]
   cases h
 split at h
 ·rename_i r hr
  rw[h] at hr
  exact nilQ_sound hr (S.ev x) (S.ev y)
 split at h
 ·rename_i r hr
  rw[h] at hr
  exact samePQ_sound hr (S.ev x) (S.ev y)
 exact binQ_sound h (S.ev x) (S.ev y)
theorem binW_refs {op:BinOp} {t:TypeId} {cn:Bool} {x y r:DV} {s:Bool} (h:binW Y op t look cn x y=some (s,r)):r.refs=[]:=by
 unfold binW at h
 split at h
 ·unfold sliceNilQ at h
  split at h<;>first|(cases h;rfl)|cases h
 ·cases cn
  ·cases h
  simp only[Wy] at h
  unfold ifaceNilQ at h
  split at h<;>first|(cases h;rfl)|cases h
 split at h
 ·rename_i r' hr;rw[h] at hr;exact nilQ_refs hr
 split at h
 ·rename_i r' hr;rw[h] at hr;exact samePQ_refs hr
 exact binQ_refs h
def capQ (Y:Tab) (t:TypeId) (x:DV):Option (Bool×DV):=
 match Y.underlying t,x with
 | some (.slice _),.nils=>some (true,lit (.int .i64 0))
 | _,_=>none
theorem capQ_sound {t ty:TypeId} {a d:DV} {u:Value} (h:capQ Y t a=some (true,d)) (hu:qt G (G.rd w) a u) :
  ∃ r,(Builtin.cap_ #[t] ty #[u]).run P w=.ok r w/\qt G (G.rd w) d r:=by
 unfold capQ at h
 split at h
 ·rename_i e ht
  cases h
  simp only[qt] at hu
  subst hu
  exact⟨_,by simp[Builtin.cap_,qF ht,goInt],qG rfl⟩
 cases h
theorem capQ_refs {t:TypeId} {x r:DV} {s:Bool} (h:capQ Y t x=some (s,r)):r.refs=[]:=by
 unfold capQ at h
 split at h<;>first|(cases h;rfl)|cases h
def mapOf (look:Nat->Option MO) (d:DV):DV:=
 match d with
 | .mref h=>match look h with
  | some (.map ks vs)=>.pv (.map ks vs)
  | some (.fmap ks vs)=>.pv (.map ks vs)
  | _=>d
 | d=>d
theorem lookupW_sound (S:Sees G w ρ ev look) {t:TypeId} {a k d:DV} {ok:Bool} {u key:Value} (h:ZS Y t (mapOf look a) k ok=some (true,d)) (hu:qt G (G.rd w) a u)
  (hk:qt G (G.rd w) k key):∃ r,(Instr.lookup t u key ok).run P w=.ok r w/\qt G (G.rd w) d r:=by
 unfold mapOf at h
 split at h
 ·rename_i hh
  split at h
  ·rename_i ks vs hl
   obtain⟨k1,es,clock,e1,e2,e3,e4⟩:=S.look _ _ hl
   simp only[qt] at hu
   rw[hu.2]
   unfold ZS at h
   split at h
   ·rename_i kt et ht
    split at h
    ·rename_i kd z ks' vs' kp hkt hz hkp
     split at h
     ·rename_i hpk
      simp only[zh,zx,zj,Wv] at h
      obtain⟨⟨h1,h2⟩,rfl⟩:=h
      cases hkp
      simp only[qt] at hk
      exact lookup_core ht hkt hz hpk h1 h2 hk e2 e3 e4
     cases h
    cases h
   cases h
  ·rename_i ks vs hl
   obtain⟨k1,es,e1,e2,e3⟩:=S.look _ _ hl
   simp only[qt] at hu
   exact ZH (P:=P) S h (by simp only[qt,qI];exact⟨_,es,hu.2,e1,e2,e3⟩) hk
  exact ZH (P:=P) S h hu hk
 exact ZH (P:=P) S h hu hk
def copy0Q (Y:Tab) (t:TypeId) (look:Nat->Option MO) (d s:DV):Option (Bool×DV):=
 match Y.underlying t,lenOf look d,lenOf look s with
 | some (.slice e),some a,some b=>match szT Y e with
  | some _=>if a=0\/b=0 then some (true,lit (.int .i64 0)) else none
  | none=>none
 | _,_,_=>none
theorem copy0Q_sound (S:Sees G w ρ ev look) {t st ty:TypeId} {d s r:DV} {u v:Value} (h:copy0Q Y t look d s=some (true,r)) (hd:qt G (G.rd w) d u) (hs:qt G (G.rd w) s v) :
  ∃ x,(Builtin.copy_ #[t,st] ty #[u,v]).run P w=.ok x w/\qt G (G.rd w) r x:=by
 unfold copy0Q at h
 split at h
 ·rename_i e a b ht ha hb
  split at h
  ·rename_i sz hsz
   split at h
   ·rename_i hq
    cases h
    obtain⟨ba,ca,rfl⟩:=lenOf_sound S ha hd
    obtain⟨bb,cb,rfl⟩:=lenOf_sound S hb hs
    have hm:Nat.min b a=0:=by
     grind
    refine⟨.int .i64 0,?_,qG rfl⟩
    cases bb<;>cases ba<;>simp[Builtin.copy_,qF ht,qX hsz,Builtin.lenOf,Builtin.firstCells,loadCells,loadCellsFrom,storeCells,goInt,hm]
   cases h
  cases h
 cases h
theorem copy0Q_refs {t:TypeId} {d s r:DV} {sd:Bool} (h:copy0Q Y t look d s=some (sd,r)):r.refs=[]:=by
 unfold copy0Q at h
 split at h
 ·split at h
  ·split at h
   ·cases h;rfl
   cases h
  cases h
 cases h
def convW (Y:Tab) (s t:TypeId) (look:Nat->Option MO) (x:DV):Option (Bool×DV):=
 match x with
 | .bref h c=>convPQ Y s t look (.bref h c)
 | x=>convQ Y s t x
theorem convW_sound (S:Sees G w ρ ev look) {s t:TypeId} {a d:DV} {u:Value} (h:convW Y s t look a=some (true,d)) (hu:qt G (G.rd w) a u) :
  ∃ r,(convert s t u).run P w=.ok r w/\qt G (G.rd w) d r:=by
 unfold convW at h
 split at h
 ·exact convPQ_sound (P:=P) S h hu
 exact convQ_sound (P:=P) h hu
theorem convW_refs {s t:TypeId} {x r:DV} {sd:Bool} (h:convW Y s t look x=some (sd,r)):∀ k∈r.refs,k∈x.refs:=by
 unfold convW at h
 split at h
 ·exact convPQ_refs h
 intro k hk;rw[convQ_refs h] at hk;cases hk
def Z0:Option (Bool×DV)->Option Out
 | some (s,d)=>some ⟨s,d,[]⟩
 | none=>none
def stepV (Y:Tab) (nm:Nat) (dst:Option Tmp) (op:Op) (ev:Operand->DV) (look fl:Nat->Option MO):Option Out:=
 match op,dst with
 | .alloc T,some _=>allocV Y nm T fl
 | .box T x,some _=>boxV T nm (ev x) look fl
 | .build t parts,_=>buildV Y t parts.toList ev look
 | .buildSlice t n parts,some _=>buildSliceV Y nm t n parts.toList ev look fl
 | .store t a x,_=>storeV Y t (ev a) (ev x) look
 | .makeSlice t l c,some _=>makeSliceV Y nm t (ev l) (ev c) fl
 | .makeMap _ none,some _=>makeMapV nm fl
 | .binOp op t x y _,_=>Z0 (binW Y op t look (Z2 y) (ev x) (ev y))
 | .indexAddr t x i,_=>Z0 (jT Y t look (ev x) (ev i))
 | .slice t x lo hi mx,_=>Z0 (kU Y t look (ev x) (lo.map ev) (hi.map ev) (mx.map ev))
 | .insert t m k x,_| .mapUpdate t m k x,_=>insertV Y t (ev m) (ev k) (ev x) look
 | .call ⟨.builtin .append,⟨[s,x]⟩,⟨[t,xt]⟩⟩,some _=>kP Y nm t xt (ev s) (ev x) look fl
 | .call ⟨.builtin .copy,⟨[d,s]⟩,⟨[t,_]⟩⟩,_=>match copy0Q Y t look (ev d) (ev s) with
  | some r=>Z0 (some r)
  | none=>copyV Y t (ev d) (ev s) look
 | .call ⟨.builtin .cap,⟨[x]⟩,⟨[t]⟩⟩,_=>Z0 (capQ Y t (ev x))
 | .lookup t x k ok,_=>Z0 (ZS Y t (mapOf look (ev x)) (ev k) ok)
 | .call ⟨.builtin .unsafeSliceData,⟨[x]⟩,⟨[_]⟩⟩,_=>Z0 (usdQ look (ev x))
 | .convert s t x,_=>Z0 (convW Y s t look (ev x))
 | _,_=>Z0 (qv Y op ev look)
theorem Zh (C:Ctx G w ρ ev look fl) {o:Oper} {out:Out} {nm:Nat} (h:stepV Y nm o.dst o.op ev look fl=some out) (hs:out.side=true) :
  ∃ r w' G',((execOp ρ o).run P w=.ok (.value r) w'\/(execOp ρ o).run P w=.ok .skip w'/\r=undef)/\Stepped G w fl out.val out.ms G' w' r:=by
 have lift:∀ {s:Sem Value},(∃ r w' G',s.run P w=.ok r w'/\Stepped G w fl out.val out.ms G' w' r)->
   ∃ r w' G',((do pure (Next.value (<-s)):Sem Next).run P w=.ok (.value r) w'\/(do pure (Next.value (<-s)):Sem Next).run P w=.ok .skip w'/\r=undef)/\Stepped G w fl out.val out.ms G' w' r:=by
  rintro s ⟨r,w',G',h1,h2⟩
  exact⟨r,w',G',.inl (by simp only[qp,h1,qo,qq]),h2⟩
 have liftU:∀ {s:Sem Unit},(∃ w' G',s.run P w=.ok () w'/\Stepped G w fl out.val out.ms G' w' undef)->
   ∃ r w' G',((do s;pure Next.skip:Sem Next).run P w=.ok (.value r) w'\/(do s;pure Next.skip:Sem Next).run P w=.ok .skip w'/\r=undef)/\Stepped G w fl out.val out.ms G' w' r:=by
  rintro s ⟨w',G',h1,h2⟩
  exact⟨undef,w',G',.inr ⟨by simp only[qp,h1,qo,qq],rfl⟩,h2⟩
 obtain⟨dst,op,ty,pos,after,guard⟩:=o
 simp only at h
 unfold stepV at h
 split at h
 ·exact lift (allocV_sound (P:=P) C h hs)
 ·exact lift (boxV_sound C h)
 ·obtain⟨r,h1,h2⟩:=buildV_sound (P:=P) C h
  exact lift ⟨r,w,G,h1,h2⟩
 ·exact lift (buildSliceV_sound C h hs)
 ·exact liftU (storeV_sound (P:=P) C h hs)
 ·exact lift (makeSliceV_sound C h hs)
 ·exact lift (makeMapV_sound C h)
 ·rename_i op t x y yt
  cases hq:binW Y op t look (Z2 y) (ev x) (ev y) with
  | none=>rw[hq] at h;cases h
  | some p=>
   obtain⟨s,d⟩:=p
   rw[hq] at h
   cases h
   simp only at hs
   subst hs
   obtain⟨r,h1,h2⟩:=binW_sound (P:=P) C.sees hq
   exact lift (s:=do eqGuard op t x y (ρ x) (ρ y);binOp op t (ρ x) (ρ y)) ⟨r,w,G,h1,qD C h2 (fun k hk=>by rw[binW_refs hq] at hk;cases hk)⟩
 ·rename_i t x i
  cases hq:jT Y t look (ev x) (ev i) with
  | none=>rw[hq] at h;cases h
  | some p=>
   obtain⟨s,d⟩:=p
   rw[hq] at h
   cases h
   simp only at hs
   subst hs
   obtain⟨r,h1,h2⟩:=ZB (P:=P) C.sees hq (C.sees.ev x) (C.sees.ev i)
   exact lift ⟨r,w,G,h1,qD C h2 (fun k hk=>C.csrc k (.inl ⟨x,indexAddrW_refs hq k hk⟩))⟩
 ·rename_i t x lo hi mx
  cases hq:kU Y t look (ev x) (lo.map ev) (hi.map ev) (mx.map ev) with
  | none=>rw[hq] at h;cases h
  | some p=>
   obtain⟨s,d⟩:=p
   rw[hq] at h
   cases h
   simp only at hs
   subst hs
   obtain⟨r,h1,h2⟩:=sliceW_sound (P:=P) C.sees hq (C.sees.ev x) (ORel_map C.sees lo) (ORel_map C.sees hi) (ORel_map C.sees mx)
   exact lift ⟨r,w,G,h1,qD C h2 (fun k hk=>C.csrc k (.inl ⟨x,sliceW_refs hq k hk⟩))⟩
 ·exact liftU (insertV_sound (P:=P) C h hs)
 ·exact liftU (insertV_sound (P:=P) C h hs)
 ·obtain⟨r,w',G',h1,h2⟩:=appendV_sound (P:=P) C (ty:=ty) h hs
  exact lift (s:=Builtin.append_ _ _ _) ⟨r,w',G',by simpa using h1,h2⟩
 ·rename_i d s t st
  split at h
  ·rename_i r hq
   obtain⟨s',d'⟩:=r
   cases h
   simp only at hs
   subst hs
   obtain⟨r,h1,h2⟩:=copy0Q_sound (P:=P) (st:=st) (ty:=ty) C.sees hq (C.sees.ev d) (C.sees.ev s)
   exact lift (s:=Builtin.copy_ _ _ _) ⟨r,w,G,by simpa using h1,qD C h2 (fun k hk=>by rw[copy0Q_refs hq] at hk;cases hk)⟩
  obtain⟨r,w',G',h1,h2⟩:=copyV_sound (P:=P) C (st:=st) (ty:=ty) h hs
  exact lift (s:=Builtin.copy_ _ _ _) ⟨r,w',G',by simpa using h1,h2⟩
 ·rename_i x t
  cases hq:capQ Y t (ev x) with
  | none=>rw[hq] at h;cases h
  | some p=>
   obtain⟨s,d⟩:=p
   rw[hq] at h
   cases h
   simp only at hs
   subst hs
   obtain⟨r,h1,h2⟩:=capQ_sound (P:=P) (ty:=ty) hq (C.sees.ev x)
   exact lift (s:=Builtin.cap_ _ _ _) ⟨r,w,G,by simpa using h1,qD C h2 (fun k hk=>by rw[capQ_refs hq] at hk;cases hk)⟩
 ·rename_i t x k ok
  cases hq:ZS Y t (mapOf look (ev x)) (ev k) ok with
  | none=>rw[hq] at h;cases h
  | some p=>
   obtain⟨s,d⟩:=p
   rw[hq] at h
   cases h
   simp only at hs
   subst hs
   obtain⟨r,h1,h2⟩:=lookupW_sound (P:=P) C.sees hq (C.sees.ev x) (C.sees.ev k)
   exact lift ⟨r,w,G,h1,qD C h2 (fun k hk=>by rw[lookupQ_refs hq] at hk;cases hk)⟩
 ·rename_i x t
  cases hq:usdQ look (ev x) with
  | none=>rw[hq] at h;cases h
  | some p=>
   obtain⟨s,d⟩:=p
   rw[hq] at h
   cases h
   simp only at hs
   subst hs
   obtain⟨r,h1,h2⟩:=usdQ_sound (P:=P) (ts:= #[t]) (ty:=ty) C.sees hq (C.sees.ev x)
   exact lift (s:=Builtin.unsafeSliceData_ _ _ _) ⟨r,w,G,by simpa using h1,qD C h2 (fun k hk=>C.csrc k (.inl ⟨x,usdQ_refs hq k hk⟩))⟩
 ·rename_i u t x
  cases hq:convW Y u t look (ev x) with
  | none=>rw[hq] at h;cases h
  | some p=>
   obtain⟨s,d⟩:=p
   rw[hq] at h
   cases h
   simp only at hs
   subst hs
   obtain⟨r,h1,h2⟩:=convW_sound (P:=P) C.sees hq (C.sees.ev x)
   exact lift ⟨r,w,G,h1,qD C h2 (fun k hk=>C.csrc k (.inl ⟨x,convW_refs hq k hk⟩))⟩
 cases hq:qv Y op ev look with
 | none=>rw[hq] at h;cases h
 | some p=>
  obtain⟨s,d⟩:=p
  rw[hq] at h
  cases h
  simp only at hs
  subst hs
  obtain⟨r,h1,h2⟩:=qv_sound (P:=P) C.sees (o:=⟨dst,op,ty,pos,after,guard⟩) hq
  exact⟨r,w,G,.inl h1,qD C h2 (fun k hk=>C.csrc k (qv_refs hq k hk))⟩
end
structure St where
 tm:List (Nat×DV)
 ms:Na
noncomputable def jJ (l:List (Nat×DV)) (t:Nat):DV:=List.rec (motive:=fun _=>DV) .dead (fun p _ ih=>Bool.rec (motive:=fun _=>DV) ih p.2 (Nat.beq p.1 t)) l
noncomputable def qr (l:Na) (t:Nat):Option MO:=List.rec (motive:=fun _=>Option MO) none (fun p _ ih=>Bool.rec (motive:=fun _=>Option MO) ih (some p.2) (Nat.beq p.1 t)) l
theorem getT_nil (t:Nat):jJ [] t=.dead:=rfl
theorem jF (k:Nat) (d:DV) (l:List (Nat×DV)) (t:Nat):jJ ((k,d)::l) t=if k=t then d else jJ l t:=by
 show Bool.rec (motive:=fun _=>DV) (jJ l t) d (Nat.beq k t)=_
 by_cases h:k=t
 ·subst h;rw[WK rfl,KE]
 rw[WJ h]
 have:Nat.beq k t=false:=Bool.eq_false_iff.mpr fun h'=>h (zD h')
 rw[this]
theorem lookM_eq:qr=jw:=by
 funext l t
 induction l with
 | nil=>rfl
 | cons p l ih=>
  obtain⟨k,o⟩:=p
  show Bool.rec (motive:=fun _=>Option MO) (qr l t) (some o) (Nat.beq k t)=_
  simp only[jw]
  by_cases h:k=t
  ·subst h;rw[WK rfl,KE]
  rw[WJ h]
  have:Nat.beq k t=false:=Bool.eq_false_iff.mpr fun h'=>h (zD h')
  rw[this];exact ih
noncomputable def St.vw (s:St):Vw:=⟨jJ s.tm,qr s.ms⟩
def putT (l:List (Nat×DV)) (dst:Option Tmp) (d:DV):List (Nat×DV):=match dst with|some t=>(t,d)::l|none=>l
def St.put (s:St) (dst:Option Tmp) (d:DV) (ms:Na):St:=⟨putT s.tm dst d,ms++s.ms⟩
theorem St.put_vw (s:St) (dst:Option Tmp) (d:DV) (ms:Na):(s.put dst d ms).vw=(s.vw.setMs ms).setT dst d:=by
 unfold St.put St.vw Vw.setMs Vw.setT putT
 rw[lookM_eq]
 congr 1
 ·funext u
  cases dst with
  | none=>simp
  | some t=>simp only[jF,zh,eq_comm]
 funext u
 exact assocM_append _ _ _
noncomputable def evS (s:St):Operand->DV
 | .tmp t=>jJ s.tm t
 | .const v=>cellDV v
 | .global _=>.dead
 | .func f=>.pv (.fn (.func f) [] [])
def tmpsOf (xs:List Operand):List Tmp:=xs.filterMap fun| .tmp t=>some t|_=>none
def stripT:Op->List Tmp
 | .pick c _ _=>tmpsOf [c]
 | op=>tmpsOf op.operands.toList
noncomputable def evG (op:Op) (s:St):Operand->DV
 | .tmp t=>match jJ s.tm t with
  | .gd c d=>bif (stripT op).contains t then d else .gd c d
  | d=>d
 | x=>evS s x
noncomputable def sideT (s:St) (c:Bool):List Tmp->Bool
 | []=>true
 | t::ts=>match jJ s.tm t with
  | .gd c' _=>(!c||c')&&sideT s c ts
  | _=>sideT s c ts
section
variable {P:Program} {Y:Tab} [qH P Y] {G:Gh} {w:World} {a:Act} {s:St}
theorem RelDV_cell (G:Gh) (R:Rd) (v:Value):qt G R (cellDV v) v:=by
 unfold cellDV
 split
 ·simp only[qt]
 split
 ·rename_i h;exact qG h
 simp only[qt]
theorem kG (I:Inv G s.vw a w) (x:Operand):qt G (G.rd w) (evS s x) (a.eval x):=by
 cases x with
 | tmp t=>exact I.ts t
 | const v=>exact RelDV_cell _ _ v
 | global g=>simp only[evS,qt]
 | func f=>simp only[evS,qt,qI,Act.eval];exact⟨#[], #[],rfl,by simp[qw],by simp[qw]⟩
theorem evS_refs {x:Operand} {k:Nat} (h:k∈(evS s x).refs):∃ t,k∈(jJ s.tm t).refs:=by
 cases x with
 | tmp t=>exact⟨t,h⟩
 | const v=>simp only[evS,ZR] at h;cases h
 | global g=>simp[evS,DV.refs] at h
 | func f=>simp[evS,DV.refs] at h
theorem sideT_mem:∀ {ts:List Tmp} {c:Bool},sideT s c ts=true->c=true->∀ t∈ts,∀ c' d,jJ s.tm t=.gd c' d->c'=true
 | [],_,_,_,t,ht,_,_,_=>by cases ht
 | u::ts,c,h,hc,t,ht,c',d,e=>by
  subst hc
  simp only[sideT] at h
  rcases zF.1 ht with rfl|ht'
  ·grind
  split at h
  ·simp only[zj] at h
   exact sideT_mem h.2 Z t ht' c' d e
  exact sideT_mem h Z t ht' c' d e
theorem evG_sound (I:Inv G s.vw a w) {op:Op} (h:sideT s true (stripT op)=true) (x:Operand):qt G (G.rd w) (evG op s x) (a.eval x):=by
 cases x with
 | tmp t=>
  have ht:qt G (G.rd w) (jJ s.tm t) (a.tmps.getD t undef):=I.ts t
  simp only[evG]
  split
  ·rename_i c d e
   rw[e] at ht
   cases hm:(stripT op).contains t with
   | true=>
    have:=sideT_mem h Z t (by simpa using hm) c d e
    simp only[qt] at ht
    exact ht.1 this
   | false=>exact ht
  exact ht
 | const v=>exact kG I (.const v)
 | global g=>exact kG I (.global g)
 | func f=>exact kG I (.func f)
theorem evG_refs {op:Op} {x:Operand} {k:Nat} (h:k∈(evG op s x).refs):∃ t,k∈(jJ s.tm t).refs:=by
 cases x with
 | tmp t=>
  refine⟨t,?_⟩
  simp only[evG] at h
  split at h
  ·rename_i c d e
   rw[e]
   cases hm:(stripT op).contains t with
   | true=>rw[hm] at h;simpa [DV.refs] using h
   | false=>rw[hm] at h;exact h
  exact h
 | const v=>exact evS_refs (s:=s) (x:=.const v) h
 | global g=>exact evS_refs (s:=s) (x:=.global g) h
 | func f=>exact evS_refs (s:=s) (x:=.func f) h
theorem Inv.ctx (I:Inv G s.vw a w) {op:Op} (h:sideT s true (stripT op)=true):Ctx G w a.eval (evG op s) (qr s.ms) (qr s.ms):=by
 refine⟨⟨evG_sound I h,fun h m hm=>I.ms h m hm,I.sees.1,I.sees.2⟩,fun h o ho=>ho,?_,I.fresh⟩
 rintro k (⟨x,hk⟩|⟨k',o,ho,hk⟩)
 ·obtain⟨t,ht⟩:=evG_refs hk
  exact I.refsT t k ht
 exact I.refsM k' o k ho hk
noncomputable def gcond (ops:Array Oper) (s:St):Option (Nat×Bool)->Option Bool
 | none=>some true
 | some (g,want)=>match (ops[g]?).bind (·.dst) with
  | some t=>match jJ s.tm t with
   | .pv (.lit (.bool x))=>some (x==want)
   | .gd c (.pv (.lit (.bool x)))=>some (c&&x==want)
   | _=>none
  | none=>none
theorem gcond_sound {ops:Array Oper} {o:Oper} {c:Bool} (I:Inv G s.vw a w) (h:gcond ops s o.guard=some c):Region.wanted o (yielded ops a.tmps)=c:=by
 unfold Region.wanted
 cases hg:o.guard with
 | none=>rw[hg] at h;simpa [gcond] using h
 | some gw=>
  obtain⟨g,want⟩:=gw
  rw[hg] at h
  simp only[gcond] at h
  split at h
  ·rename_i t ht
   have hv:qt G (G.rd w) (jJ s.tm t) (a.tmps.getD t undef):=I.ts t
   have hy:yielded ops a.tmps g=match a.tmps.getD t undef with| .bool b=>some b|_=>none:=by
    simp only[yielded,ht,zC,zY]
    rcases a.tmps[t]? with _|v
    ·rfl
    cases v<;>rfl
   simp only[hy]
   split at h
   ·rename_i x e
    rw[e] at hv
    rw[(qx hv).1]
    cases h
    cases x<;>cases want<;>rfl
   ·rename_i c' x e
    rw[e] at hv
    simp only[qt] at hv
    cases h
    cases c' with
    | true=>
     have:=(qx (G:=G) (R:=G.rd w) (by simpa only[qt] using hv.1 rfl)).1
     grind
    | false=>
     rw[hv.2 rfl]
     cases x<;>cases want<;>rfl
   cases h
  cases h
inductive Pre where
 | none
 | frz (xs:List Operand)
 | trunc (x:Operand)
def preOf (op:Op) (ev:Operand->DV):Pre:=
 match op with
 | .buildSlice _ _ parts=>.frz (parts.toList.map (·.2))
 | .insert _ _ _ x| .mapUpdate _ _ _ x=>.frz [x]
 | .slice _ x (some _) _ _=>.frz [x]
 | .store _ a x=>match ev a with
  | .eref _ _ _ _=>.frz [x]
  | _=>.trunc x
 | .call ⟨.builtin .append,⟨[x,_]⟩,_⟩=>.trunc x
 | _=>.none
def refsOf (ev:Operand->DV) (xs:List Operand):List Nat:=xs.flatMap fun x=>(ev x).refs
def evR (x:Operand) (d:DV) (ev:Operand->DV):Operand->DV
 | .tmp t=>match x with
  | .tmp u=>bif Nat.beq t u then d else ev (.tmp t)
  | _=>ev (.tmp t)
 | y=>ev y
def effV (Y:Tab) (nm:Nat) (dst:Option Tmp) (op:Op) (ev:Operand->DV) (look:Nat->Option MO):Option Out:=
 match op with
 | .call ⟨.builtin .unsafeString,⟨[p,n]⟩,⟨[pt,_]⟩⟩=>ustrV Y pt (ev p) (ev n) look
 | .convert s t x=>match s2bV Y s t (ev x) with
  | some out=>some out
  | none=>stepV Y nm dst (.convert s t x) ev look look
 | op=>
 match preOf op ev with
 | .none=>stepV Y nm dst op ev look look
 | .frz xs=>match frzU look (refsOf ev xs) with
  | []=>stepV Y nm dst op ev look look
  | fz=>match stepV Y nm dst op ev (upd fz look) (upd fz look) with
   | some ⟨s,v,ms⟩=>some ⟨s,v,mrg ms fz⟩
   | none=>none
 | .trunc x=>match truncU look (ev x) with
  | some (d,h,m)=>match stepV Y nm dst op (evR x d ev) (upd [(h,m)] look) (upd [(h,m)] look) with
   | some ⟨s,v,ms⟩=>some ⟨s,v,mrg ms [(h,m)]⟩
   | none=>none
  | none=>stepV Y nm dst op ev look look
theorem Ctx.mem {ρ:Operand->Value} {ev:Operand->DV} {look:Nat->Option MO} (C:Ctx G w ρ ev look look) (M:ZZ G look w) {v:DV} {ms:Na} {G1:Gh} {r:Value}
  (S:Stepped G w look v ms G1 w r):Ctx G1 w ρ ev (upd ms look) (upd ms look):=by
 have M1:=M.out S
 refine⟨⟨fun x=>?_,M1.ms,M1.readable.1,M1.readable.2⟩,fun _ _ h=>h,?_,M1.fresh⟩
 ·refine qt.mono (G:=G) S.later.rd _ _ (fun h hh=>?_) (C.sees.ev x)
  obtain⟨o,ho⟩:=C.csrc h (.inl ⟨x,hh⟩)
  exact S.keeps h o ho
 rintro k (⟨x,hk⟩|⟨k',o,ho,hk⟩)
 ·exact upd_some (.inr (C.csrc k (.inl ⟨x,hk⟩)))
 exact M1.refsM k' o k ho hk
theorem Ctx.set {ρ:Operand->Value} {ev:Operand->DV} {look:Nat->Option MO} (C:Ctx G w ρ ev look look) {x:Operand} {d:DV} (hd:qt G (G.rd w) d (ρ x)) (hr:∀ k∈d.refs,∃ o,look k=some o):Ctx G w ρ (evR x d ev) look look:=by
 refine⟨⟨fun y=>?_,C.sees.look,C.sees.cell,C.sees.map⟩,C.cfl,?_,C.cfresh⟩
 ·unfold evR
  split
  ·rename_i t
   split
   ·rename_i u
    cases hb:Nat.beq t u with
    | true=>have:=zD hb;subst this;exact hd
    | false=>exact C.sees.ev _
   exact C.sees.ev _
  exact C.sees.ev _
 rintro k (⟨y,hk⟩|hk)
 ·unfold evR at hk
  split at hk
  ·rename_i t
   split at hk
   ·rename_i u
    cases hb:Nat.beq t u with
    | true=>rw[hb] at hk;exact hr k hk
    | false=>rw[hb] at hk;exact C.csrc k (.inl ⟨_,hk⟩)
   exact C.csrc k (.inl ⟨_,hk⟩)
  exact C.csrc k (.inl ⟨_,hk⟩)
 exact C.csrc k (.inr hk)
theorem effV_sound {ρ:Operand->Value} {ev:Operand->DV} {look:Nat->Option MO} (C:Ctx G w ρ ev look look) (M:ZZ G look w) {nm:Nat} {o:Oper} {out:Out}
  (h:effV Y nm o.dst o.op ev look=some out) (hs:out.side=true) :
  ∃ r w' G',((execOp ρ o).run P w=.ok (.value r) w'\/(execOp ρ o).run P w=.ok .skip w'/\r=undef)/\Stepped G w look out.val out.ms G' w' r:=by
 unfold effV at h
 split at h
 ·rename_i p n pt it hop
  obtain⟨r,w',G',h1,h2⟩:=ustrV_sound (P:=P) (it:=it) (ty:=o.type) C M.r0 M.r0m h
  refine⟨r,w',G',.inl ?_,h2⟩
  have h1':(Builtin.unsafeString_ #[pt,it] o.type (Array.map ρ ⟨[p,n]⟩)).run P w=.ok r w':=by simpa using h1
  have he:execOp ρ o=(do pure (Next.value (<-Builtin.unsafeString_ #[pt,it] o.type (Array.map ρ ⟨[p,n]⟩))):Sem Next):=by
   obtain⟨dst,op,ty,pos,after,guard⟩:=o
   simp only at hop
   subst hop
   rfl
  rw[he]
  simp only[qp,h1',qo,qq]
 ·rename_i s t x hop
  split at h
  ·rename_i out' hs2
   cases h
   obtain⟨r,w',G',h1,h2⟩:=s2bV_sound (P:=P) C M.baseLe hs2
   refine⟨r,w',G',.inl ?_,h2⟩
   have he:execOp ρ o=(do pure (Next.value (<-convert s t (ρ x))):Sem Next):=by
    obtain⟨dst,op,ty,pos,after,guard⟩:=o
    simp only at hop
    subst hop
    rfl
   rw[he]
   simp only[qp,h1,qo,qq]
  rw[<-hop] at h
  exact Zh (P:=P) C h hs
 split at h
 ·exact Zh (P:=P) C h hs
 ·rename_i xs _
  obtain⟨G1,S1⟩:=frzU_stepped (refsOf ev xs) M
  split at h
  ·exact Zh (P:=P) C h hs
  split at h
  ·rename_i s v ms hst
   cases h
   obtain⟨r,w',G',h1,h2⟩:=Zh (P:=P) (C.mem M S1) hst hs
   exact⟨r,w',G',h1,S1.trans M h2⟩
  cases h
 rename_i x _
 split at h
 ·rename_i d hh m ht
  obtain⟨G1,S1⟩:=trunc_stepped M (C.sees.ev x) ht
  split at h
  ·rename_i s v ms hst
   cases h
   have C1:=(C.mem M S1).set (x:=x) (d:=d) S1.hval (fun k hk=>upd_some (S1.refs k hk))
   obtain⟨r,w',G',h1,h2⟩:=Zh (P:=P) C1 hst hs
   exact⟨r,w',G',h1,S1.trans M h2⟩
  cases h
 exact Zh (P:=P) C h hs
noncomputable def freshN (ms:Na):Nat->Nat->Nat
 | 0,n=>n
 | k+1,n=>match qr ms n with
  | none=>n
  | some _=>freshN ms k (n+397)
noncomputable def nameOf (nb:Nat) (ms:Na):Option Tmp->Nat
 | some d=>freshN ms 50 (nb+d)
 | none=>nb
structure Since (K:Nat) (look:Nat->Option MO) (G:Gh) (w:World) (look':Nat->Option MO) (G':Gh) (w':World):Prop where
 later:Later G w G' w'
 keeps:∀ h o,h<K->look h=some o->G.keeps G' h/\∃ o',look' h=some o'
 newb:∀ b h,G'.γ b=some h->G.γ b=some h\/w.heap.size<=b
theorem Since.refl (K:Nat) (look:Nat->Option MO) (G:Gh) (w:World):Since K look G w look G w:=
 ⟨Later.refl _ _,fun _ o _ ho=>⟨.inl Z,o,ho⟩,fun _ _ h=>.inl h⟩
theorem Since.trans {K:Nat} {l l' l'':Nat->Option MO} {G G' G'':Gh} {w w' w'':World} (h:Since K l G w l' G' w') (k:Since K l' G' w' l'' G'' w''):Since K l G w l'' G'' w'':=by
 refine⟨h.later.trans k.later,fun n o hn ho=>?_,fun b n hb=>?_⟩
 ·obtain⟨h1,o',ho'⟩:=h.keeps n o hn ho
  obtain⟨h2,h3⟩:=k.keeps n o' hn ho'
  exact⟨h1.trans h2,h3⟩
 rcases k.newb b n hb with e|e
 ·exact h.newb b n e
 exact .inr (qd h.later.size e)
theorem Since.of {K:Nat} {look:Nat->Option MO} {v:DV} {ms:Na} {G':Gh} {w':World} {r:Value} (S:Stepped G w look v ms G' w' r):Since K look G w (upd ms look) G' w':=
 ⟨S.later,fun h o _ ho=>⟨S.keeps h o ho,upd_some (.inr ⟨o,ho⟩)⟩,S.newb⟩
theorem St.put_look (s:St) (dst:Option Tmp) (d:DV) (ms:Na):qr (s.put dst d ms).ms=upd ms (qr s.ms):=by
 have:=WD Vw.look (St.put_vw s dst d ms)
 exact this
theorem Inv.eff {K:Nat} (I:Inv G s.vw a w) {val:DV} {ms:Na} {G':Gh} {w':World} {r:Value} (S:Stepped G w (qr s.ms) val ms G' w' r) (dst:Option Tmp) (hd:∀ d,dst=some d->d<a.tmps.size) :
  Inv G' (s.put dst val ms).vw (a.put dst r) w'/\Since K (qr s.ms) G w (qr (s.put dst val ms).ms) G' w':=by
 refine⟨by rw[St.put_vw];exact I.out S dst hd,?_⟩
 rw[St.put_look];exact Since.of S
theorem Stepped.gd {look:Nat->Option MO} {val:DV} {ms:Na} {G':Gh} {w':World} {r:Value} (S:Stepped G w look val ms G' w' r):Stepped G w look (.gd true val) ms G' w' r:=
 { S with
  hval:=by simp only[qt];exact⟨fun _=>S.hval,fun h=>by cases h⟩
  refs:=fun k hk=>S.refs k (by simpa [DV.refs] using hk) }
theorem Inv.gone {K:Nat} (I:Inv G s.vw a w) (dst:Option Tmp) (hd:∀ d,dst=some d->d<a.tmps.size) (c:Bool) (hc:c=false) (val:DV) (hr:∀ h∈val.refs,∃ o,qr s.ms h=some o) :
  Inv G (s.put dst (.gd c val) []).vw (a.put dst undef) w/\Since K (qr s.ms) G w (qr (s.put dst (.gd c val) []).ms) G w:=by
 refine I.eff (r:=undef) ⟨Later.refl _ _,?_,by simp,fun h o _=>.inl rfl,fun h _=>⟨rfl,fun b hb=>⟨hb,rfl⟩⟩,I.fresh,fun b h hb=>.inr hb,fun h hh=>.inr (hr h aj),by simp,fun b h hb=>.inl hb,fun _ _ _ _ h=>.inl h,fun _ _ _ h=>.inl h⟩ dst hd
 grind [qt]
end
def CallsAs (P:Program) (f:FuncId) (vs:Array Value) (w:World) (R:Value->World->Prop):Prop:=
 ((callFunc f vs).run P w=.ok (.enter f vs) w/\Calls P f vs w fun e w'=>∃ r,e=.returned r/\R r w')\/∃ r w',(callFunc f vs).run P w=.ok (.value r) w'/\R r w'
theorem CallsAs.mono {P:Program} {f:FuncId} {vs:Array Value} {w:World} {R R':Value->World->Prop} (h:CallsAs P f vs w R) (k:∀ r w',R r w'->R' r w'):CallsAs P f vs w R':=by
 rcases h with ⟨h1,h2⟩|⟨r,w',h1,h2⟩
 ·exact .inl ⟨h1,Calls.mono h2 fun e w' ⟨r,e1,e2⟩=>⟨r,e1,k _ _ e2⟩⟩
 exact .inr ⟨r,w',h1,k _ _ h2⟩
structure qA (P:Program) (f:FuncId) (ds:List DV) (look:Nat->Option MO) (val:DV) (ms:Na):Prop where
 refs:∀ h∈DV.qL ds,∃ o,look h=some o
 call:∀ (G:Gh) (w:World) (vs:Array Value),ZZ G look w->qz G (G.rd w) ds vs.toList->
  CallsAs P f vs w fun r w'=>∃ G',Stepped G w look val ms G' w' r
section
variable {P:Program} {G:Gh} {w:World} {a:Act} {s:St}
theorem ZZ.rd_none {look:Nat->Option MO} (M:ZZ G look w) {b o:Nat} {v:Value} (h:(G.rd w).cell b o=some v):G.γ b=none:=by
 simp only[Gh.rd] at h
 split at h
 ·rename_i hb;exact (M.r0 b o v hb h).1
 grind
theorem ZZ.rd_noneM {look:Nat->Option MO} (M:ZZ G look w) {r:Nat} {es:Array MapEntry} (h:(G.rd w).map r=some es):G.γ r=none:=by
 simp only[Gh.rd] at h
 split at h
 ·rename_i hb;exact (M.r0m r es hb h).1
 grind
def Gh.part (G:Gh) (w:World) (l:Nat->Option MO):Gh:=⟨w.heap.size,G.rd w,G.ρ,fun b=>match G.γ b with|some h=>if (l h).isSome then some h else none|none=>none⟩
section
variable {l L:Nat->Option MO}
theorem part_le (M:ZZ G L w):(G.rd w).Le ((G.part w l).rd w):=by
 constructor
 ·intro b o v h
  show (if b<w.heap.size then (G.rd w).cell b o else _)=some v
  rw[WK (World.cell?_lt (M.readable.1 _ _ _ h))];exact h
 intro r es h
 show (if r<w.heap.size then (G.rd w).map r else _)=some es
 rw[WK (mapAt_lt (M.readable.2 _ _ h))];exact h
theorem ZZ.part (M:ZZ G L w) (hsub:∀ h o,l h=some o->L h=some o\/(o=.gone/\∃ o',L h=some o')) (hcl:∀ k o h,l k=some o->h∈o.refs->∃ o',l h=some o'):ZZ (G.part w l) l w:=by
 have gc_none:∀ {b},G.γ b=none->(G.part w l).γ b=none:=fun {b} h=>by show (match G.γ b with|some h=>if (l h).isSome then some h else none|none=>none)=none;rw[h]
 have gc_in:∀ {b h},G.γ b=some h->(∃ o,l h=some o)->(G.part w l).γ b=some h:=fun {b h} e ⟨o,ho⟩=>by
  show (match G.γ b with|some h=>if (l h).isSome then some h else none|none=>none)=some h
  rw[e];simp[ho]
 have gc_some:∀ {b h},(G.part w l).γ b=some h->G.γ b=some h/\∃ o,l h=some o:=fun {b h} e=>by
  have e':(match G.γ b with|some h=>if (l h).isSome then some h else none|none=>none)=some h:=e
  split at e'
  ·rename_i k hk
   split at e'
   ·rename_i hs;cases e';exact⟨hk,QO.1 hs⟩
   cases e'
  cases e'
 exact⟨fun h o ho=>qW.monoR (part_le M) Z (fun b hb=>⟨gc_in hb ⟨o,ho⟩,rfl⟩) o (fun _ _=>.inl Z) ((hsub h o ho).elim (fun e=>M.ms h o e) (fun e=>by rw[e.1];trivial)),fun b h hb=>M.fresh b h (gc_some hb).1,fun b h hb=>(gc_some hb).2,hcl,
   fun b o v _ hv=>⟨gc_none (M.rd_none hv),M.readable.1 _ _ _ hv⟩,fun r es _ hv=>⟨gc_none (M.rd_noneM hv),M.readable.2 _ _ hv⟩,zB _,fun b o h=>let ⟨g,e⟩:=M.laid b o h;⟨gc_none g,e⟩⟩
theorem Stepped.frame {G1:Gh} {w':World} {val:DV} {ms:Na} {r:Value} (M:ZZ G L w) (hsub:∀ h o,l h=some o->L h=some o\/(o=.gone/\∃ o',L h=some o')) (hcl:∀ k o h,l k=some o->h∈o.refs->∃ o',l h=some o')
  (hnew:∀ h,h∈ms.map (·.1)->l h=none->L h=none) (S:Stepped (G.part w l) w l val ms G1 w' r):∃ G2,Stepped G w L val ms G2 w' r:=by
 have Mc:=M.part hsub hcl
 have lt_of:∀ {b o v},(G.rd w).cell b o=some v->b<w.heap.size:=fun h=>World.cell?_lt (M.readable.1 _ _ _ h)
 have lt_ofM:∀ {r es},(G.rd w).map r=some es->r<w.heap.size:=fun h=>mapAt_lt (M.readable.2 _ _ h)
 have gc_none:∀ {b},G.γ b=none->(G.part w l).γ b=none:=fun {b} h=>by show (match G.γ b with|some h=>if (l h).isSome then some h else none|none=>none)=none;rw[h]
 have gc_in:∀ {b h},G.γ b=some h->(∃ o,l h=some o)->(G.part w l).γ b=some h:=fun {b h} e ⟨o,ho⟩=>by
  show (match G.γ b with|some h=>if (l h).isSome then some h else none|none=>none)=some h
  rw[e];simp[ho]
 have gc_out:∀ {b h},G.γ b=some h->l h=none->(G.part w l).γ b=none:=fun {b h} e ho=>by
  show (match G.γ b with|some h=>if (l h).isSome then some h else none|none=>none)=none
  rw[e];simp[ho]
 have gc_some:∀ {b h},(G.part w l).γ b=some h->G.γ b=some h/\∃ o,l h=some o:=fun {b h} e=>by
  have e':(match G.γ b with|some h=>if (l h).isSome then some h else none|none=>none)=some h:=e
  split at e'
  ·rename_i k hk
   split at e'
   ·rename_i hs;cases e';exact⟨hk,QO.1 hs⟩
   cases e'
  cases e'
 have M1:=Mc.out S
 have b1:G1.base=w.heap.size:=S.later.base
 let G2:Gh:=⟨G.base,⟨fun b o=>if b<G.base then G1.R0.cell b o else G.R0.cell b o,fun r=>if r<G.base then G1.R0.map r else G.R0.map r⟩,G1.ρ,
  fun b=>match G1.γ b with|some h=>some h|none=>match G.γ b with|some h=>if (l h).isSome then none else some h|none=>none⟩
 have g2_1:∀ {b h},G1.γ b=some h->G2.γ b=some h:=fun {b h} e=>by
  grind
 have g2_out:∀ {b h},G1.γ b=none->G.γ b=some h->l h=none->G2.γ b=some h:=fun {b h} e e' ho=>by
  grind
 have g2_none:∀ {b},G1.γ b=none->(∀ h,G.γ b=some h->∃ o,l h=some o)->G2.γ b=none:=fun {b} e k=>by
  grind
 have g2_some:∀ {b h},G2.γ b=some h->G1.γ b=some h\/(G1.γ b=none/\G.γ b=some h/\l h=none):=fun {b h} e=>by
  have e':(match G1.γ b with|some h=>some h|none=>match G.γ b with|some h=>if (l h).isSome then none else some h|none=>none)=some h:=e
  split at e'
  ·grind
  rename_i hk
  split at e'
  ·rename_i k hk'
   split at e'
   ·cases e'
   rename_i hs;cases e';exact .inr ⟨hk,hk',by simpa using hs⟩
  cases e'
 have Rin:∀ {b o v},b<w.heap.size->G1.R0.cell b o=some v->((G.rd w).cell b o=some v/\G.γ b=none)\/∃ h o,G.γ b=some h/\l h=some o:=fun {b o v} hb hv=>by
  rcases S.later.R0c b o v hb hv with e|e
  ·exact .inl ⟨e,M.rd_none e⟩
  cases hg:(G.part w l).γ b with
  | none=>exact absurd hg e
  | some h=>obtain⟨h1,o',h2⟩:=gc_some hg;exact .inr ⟨h,o',h1,h2⟩
 have RinM:∀ {r es},r<w.heap.size->G1.R0.map r=some es->((G.rd w).map r=some es/\G.γ r=none)\/∃ h o,G.γ r=some h/\l h=some o:=fun {r es} hb hv=>by
  rcases S.later.R0m r es hb hv with e|e
  ·exact .inl ⟨e,M.rd_noneM e⟩
  cases hg:(G.part w l).γ r with
  | none=>exact absurd hg e
  | some h=>obtain⟨h1,o',h2⟩:=gc_some hg;exact .inr ⟨h,o',h1,h2⟩
 have in_of:∀ {b},(G.γ b=none\/∃ h o,G.γ b=some h/\l h=some o)->∀ h,G.γ b=some h->∃ o,l h=some o:=by
  grind
 have rd0:∀ {b o},b<G.base->(G.rd w).cell b o=G.R0.cell b o:=fun {b o} hb=>by simp only[Gh.rd,WK hb]
 have rd0m:∀ {r},r<G.base->(G.rd w).map r=G.R0.map r:=fun {r} hb=>by simp only[Gh.rd,WK hb]
 have rd2:(G1.rd w').Le (G2.rd w'):=by
  constructor
  ·intro b o v h
   simp only[Gh.rd,b1] at h
   show (if b<G.base then (if b<G.base then G1.R0.cell b o else G.R0.cell b o) else if G2.γ b=none then w'.cell? ⟨b,o,none⟩ else none)=some v
   split at h
   ·rename_i hlt
    by_cases hb:b<G.base
    ·grind
    obtain⟨e1,e2⟩:=M1.r0 b o v aK h
    rw[WJ hb,WK (g2_none e1 (in_of ((Rin hlt h).imp Wx id)))];exact e2
   rename_i hlt
   split at h
   ·rename_i e1
    rw[WJ (fun hb=>hlt (XJ hb M.baseLe)),WK (g2_none e1 fun k hk=>absurd (M.fresh b k hk) hlt)];exact h
   cases h
  intro b es h
  simp only[Gh.rd,b1] at h
  show (if b<G.base then (if b<G.base then G1.R0.map b else G.R0.map b) else if G2.γ b=none then kL w' b else none)=some es
  split at h
  ·rename_i hlt
   by_cases hb:b<G.base
   ·grind
   obtain⟨e1,e2⟩:=M1.r0m b es aK h
   rw[WJ hb,WK (g2_none e1 (in_of ((RinM hlt h).imp Wx id)))];exact e2
  rename_i hlt
  split at h
  ·rename_i e1
   rw[WJ (fun hb=>hlt (XJ hb M.baseLe)),WK (g2_none e1 fun k hk=>absurd (M.fresh b k hk) hlt)];exact h
  cases h
 refine⟨G2,?_⟩
 refine⟨?_,qt.mono (G:=G1) rd2 val r (fun _ _=>.inl Z) S.hval,fun h o hm=>qW.monoR rd2 Z (fun b hb=>⟨g2_1 hb,rfl⟩) o (fun _ _=>.inl Z) (S.hms h o hm),fun h o ho=>?_,fun h hh=>⟨(S.old h hh).1,fun b hb=>?_⟩,
  fun b h hb=>?_,fun b h hb=>?_,fun h hh=>?_,fun k o hk h hh=>?_,fun b h hb=>?_,fun b o v hb hv=>?_,fun r es hb hv=>?_⟩
 ·refine⟨rfl,⟨fun b o v hv=>?_,fun r es hv=>?_⟩,fun b o v hlt hv=>?_,fun r es hlt hv=>?_,S.later.os,S.later.tape,S.later.output,S.later.size,fun b hb hg=>?_,S.later.drawn⟩
  ·show (if b<G.base then G1.R0.cell b o else G.R0.cell b o)=some v
   split
   ·rename_i hb;exact S.later.R0.cell b o v (by show (G.rd w).cell b o=some v;rw[rd0 hb];exact hv)
   exact hv
  ·show (if r<G.base then G1.R0.map r else G.R0.map r)=some es
   split
   ·rename_i hb;exact S.later.R0.map r es (by show (G.rd w).map r=some es;rw[rd0m hb];exact hv)
   exact hv
  ·grind
  ·grind
  obtain⟨e,g⟩:=S.later.cold b hb (gc_none hg)
  exact⟨e,g2_none g (fun h hh=>by rw[hg] at hh;cases hh)⟩
 ·cases hl:l h with
  | some o'=>exact S.keeps h o' hl
  | none=>
   by_cases hm:h∈ms.map (·.1)
   ·grind
   exact .inl (S.old h hm).1
 ·cases hl:l h with
  | some o'=>obtain⟨e1,e2⟩:=(S.old h hh).2 b (gc_in hb ⟨o',hl⟩);exact⟨g2_1 e1,e2⟩
  | none=>obtain⟨e1,e2⟩:=S.later.cold b (M.fresh b h hb) (gc_out hb hl);exact⟨g2_out e2 hb hl,e1⟩
 ·rcases g2_some hb with e|⟨_,e,_⟩
  ·exact S.fresh b h e
  exact XJ (M.fresh b h e) S.later.size
 ·rcases g2_some hb with e|⟨_,e,_⟩
  ·exact (S.own b h e).imp id fun e=>(gc_some e).1
  exact .inr e
 ·exact (S.refs h hh).imp id fun ⟨o,ho⟩=>(hsub h o ho).elim (fun e=>⟨o,e⟩) (fun e=>e.2)
 ·exact (S.refsM k o hk h hh).imp id fun ⟨o,ho⟩=>(hsub h o ho).elim (fun e=>⟨o,e⟩) (fun e=>e.2)
 ·rcases g2_some hb with e|⟨_,e,_⟩
  ·exact (S.newb b h e).imp (fun e=>(gc_some e).1) id
  exact .inl e
 ·have hv':(if b<G.base then G1.R0.cell b o else G.R0.cell b o)=some v:=hv
  rw[WK hb] at hv'
  have hlt:=XJ hb M.baseLe
  rcases Rin hlt hv' with ⟨e,_⟩|e
  ·grind
  obtain⟨e1,e2⟩:=M1.r0 b o v aK hv'
  exact .inr ⟨g2_none e1 (in_of (.inr e)),e2⟩
 have hv':(if r<G.base then G1.R0.map r else G.R0.map r)=some es:=hv
 rw[WK hb] at hv'
 have hlt:=XJ hb M.baseLe
 rcases RinM hlt hv' with ⟨e,_⟩|e
 ·grind
 obtain⟨e1,e2⟩:=M1.r0m r es aK hv'
 exact .inr ⟨g2_none e1 (in_of (.inr e)),e2⟩
end
theorem qA.frame {f:FuncId} {ds:List DV} {l L:Nat->Option MO} {val:DV} {ms:Na} (H:qA P f ds l val ms)
  (hsub:∀ h o,l h=some o->L h=some o) (hcl:∀ k o h,l k=some o->h∈o.refs->∃ o',l h=some o') (hnew:∀ h,h∈ms.map (·.1)->l h=none->L h=none):qA P f ds L val ms:=by
 refine⟨fun h hh=>let ⟨o,ho⟩:=H.refs h hh;⟨o,hsub h o ho⟩,fun G w vs M hv=>?_⟩
 refine CallsAs.mono (H.call (G.part w l) w vs (M.part (fun h o e=>.inl (hsub h o e)) hcl) (qz.mono (G:=G) (part_le M) ds _ (fun _ _=>.inl Z) hv)) ?_
 rintro r w' ⟨G1,S⟩
 obtain⟨G2,S2⟩:=S.frame M (fun h o e=>.inl (hsub h o e)) hcl hnew
 exact⟨G2,S2⟩
theorem Since.close {K:Nat} {look:Nat->Option MO} {σ':Vw} {a':Act} {G':Gh} {w':World} {val:DV} {r:Value} {ms:Na}
  (M:ZZ G look w) (I':Inv G' σ' a' w') (Sn:Since K look G w σ'.look G' w') (hK:∀ h o,look h=some o->h<K) (hv:qt G' (G'.rd w') val r)
  (hms:∀ h o,(h,o)∈ms->σ'.look h=some o) (hold:∀ h o,look h=some o->h∈ms.map (·.1)) (hval:∀ h∈val.refs,h∈ms.map (·.1)) (hcl:∀ k o,(k,o)∈ms->∀ h∈o.refs,h∈ms.map (·.1)) :
  ∃ G'',Stepped G w look val ms G'' w' r:=by
 classical
 let G2:Gh:={ G' with
  ρ:=fun h=>if h∈ms.map (·.1) then G'.ρ h else G.ρ h
  γ:=fun b=>match G'.γ b with|some h=>if h∈ms.map (·.1) then some h else none|none=>none }
 have ρin:∀ {h},h∈ms.map (·.1)->G2.ρ h=G'.ρ h:=fun {h} hh=>WK hh
 have ρout:∀ {h},h∉ms.map (·.1)->G2.ρ h=G.ρ h:=fun {h} hh=>WJ hh
 have γnone:∀ {b},G'.γ b=none->G2.γ b=none:=fun {b} e=>by
  grind
 have γsome:∀ {b h},G2.γ b=some h->G'.γ b=some h/\h∈ms.map (·.1):=fun {b h} e=>by
  grind
 have γin:∀ {b h},G'.γ b=some h->h∈ms.map (·.1)->G2.γ b=some h:=fun {b h} e hm=>by
  grind
 have L2:Later G' w' G2 w':=Later.of Z Z Z Z Z (zB _) fun b _ hg=>⟨rfl,γnone hg⟩
 refine⟨G2,Sn.later.trans L2,qt.mono L2.rd _ _ (fun h hh=>.inl (ρin (hval h hh))) hv,fun h o hm=>?_,fun h o ho=>?_,fun h hh=>⟨ρout hh,fun b hb=>?_⟩,fun b h hb=>I'.fresh b h (γsome hb).1,fun b h hb=>.inl (γsome hb).2,
  fun h hh=>.inl (hval h hh),fun k o hk h hh=>.inl (hcl k o hk h hh),fun b h hb=>Sn.newb b h (γsome hb).1,fun b o v hb hv'=>?_,fun r es hb hv'=>?_⟩
 ·have hmem:h∈ms.map (·.1):=zE.2 ⟨_,hm,rfl⟩
  exact qW.mono L2 (ρin hmem) (fun b hb=>⟨γin hb hmem,rfl⟩) o (fun k hk=>.inl (ρin (hcl h o hm k hk))) (I'.ms h o (hms h o hm))
 ·have:=(Sn.keeps h o (hK h o ho) ho).1
  rcases this with e|⟨e1,e2⟩
  ·exact .inl ((ρin (hold h o ho)).trans e)
  exact .inr ⟨e1,by rw[ρin (hold h o ho)];exact e2⟩
 ·obtain⟨o,ho⟩:=M.own b h hb
  exact absurd (hold h o ho) hh
 ·have hb':b<G'.base:=by rw[Sn.later.base];exact hb
  obtain⟨e1,e2⟩:=I'.r0 b o v hb' hv'
  grind
 have hb':r<G'.base:=by rw[Sn.later.base];exact hb
 obtain⟨e1,e2⟩:=I'.r0m r es hb' hv'
 grind
theorem Inv.keep (I:Inv G s.vw a w) {K:Nat} {ms:Na} {tm:List (Nat×DV)} (htm:∀ t,jJ tm t=jJ s.tm t\/jJ tm t=.dead) (hms:∀ h o,qr ms h=some o->qr s.ms h=some o)
  (hK:∀ h o,h<K->qr s.ms h=some o->∃ o',qr ms h=some o') (ht:∀ t,∀ h∈(jJ tm t).refs,∃ o,qr ms h=some o) (hcl:∀ k o,qr ms k=some o->∀ h∈o.refs,∃ o',qr ms h=some o') :
  ∃ G',Inv G' (St.vw ⟨tm,ms⟩) a w/\Since K (qr s.ms) G w (qr ms) G' w:=by
 let G2:Gh:={ G with γ:=fun b=>match G.γ b with|some h=>if (qr ms h).isSome then some h else none|none=>none }
 have γnone:∀ {b},G.γ b=none->G2.γ b=none:=fun {b} e=>by
  grind
 have γsome:∀ {b h},G2.γ b=some h->G.γ b=some h/\∃ o,qr ms h=some o:=fun {b h} e=>by
  have e':(match G.γ b with|some h=>if (qr ms h).isSome then some h else none|none=>none)=some h:=e
  split at e'
  ·rename_i k hk
   split at e'
   ·rename_i hm;cases e';exact⟨hk,QO.1 hm⟩
   cases e'
  cases e'
 have γin:∀ {b h},G.γ b=some h->(∃ o,qr ms h=some o)->G2.γ b=some h:=fun {b h} e ⟨o,ho⟩=>by
  grind
 have L2:Later G w G2 w:=Later.of Z Z Z Z Z (zB _) fun b _ hg=>⟨rfl,γnone hg⟩
 refine⟨G2,⟨fun t=>?_,fun t hl=>?_,fun h o ho=>?_,fun b h hb=>I.fresh b h (γsome hb).1,fun b h hb=>(γsome hb).2,ht,fun k o h hk hh=>hcl k o hk h hh,fun b o v hb hv=>?_,fun r es hb hv=>?_,I.baseLe,fun b o h=>let ⟨g,e⟩:=I.laid b o h;⟨γnone g,e⟩⟩,L2,fun h o hk ho=>⟨.inl Z,hK h o hk ho⟩,fun b h hb=>.inl (γsome hb).1⟩
 ·show qt G2 (G2.rd w) (jJ tm t) _
  rcases htm t with e|e
  ·rw[e];exact qt.mono (G:=G) L2.rd _ _ (fun _ _=>.inl Z) (I.ts t)
  rw[e];simp only[qt]
 ·show jJ tm t=.dead
  rcases htm t with e|e
  ·rw[e];exact I.size t hl
  exact e
 ·exact qW.mono L2 Z (fun b hb=>⟨γin hb ⟨o,ho⟩,rfl⟩) o (fun _ _=>.inl Z) (I.ms h o (hms h o ho))
 ·obtain⟨h1,h2⟩:=I.r0 b o v hb hv
  exact⟨γnone h1,h2⟩
 obtain⟨h1,h2⟩:=I.r0m r es hb hv
 exact⟨γnone h1,h2⟩
end
noncomputable def sel (ms:Na):List Nat->Na
 | []=>[]
 | h::ns=>match qr ms h with
  | some o=>(h,o)::sel ms ns
  | none=>sel ms ns
theorem qy (k:Nat) (o:MO) (l:Na) (h:Nat):qr ((k,o)::l) h=if k=h then some o else qr l h:=by rw[lookM_eq];rfl
theorem sel_mem {ms:Na}:∀ {ns:List Nat} {h:Nat} {o:MO},(h,o)∈sel ms ns->qr ms h=some o
 | [],h,o,hm=>by cases hm
 | k::ns,h,o,hm=>by
  simp only[sel] at hm
  split at hm
  ·rename_i o' ho'
   rcases zF.1 hm with e|e
   ·cases e;exact ho'
   exact sel_mem e
  exact sel_mem hm
theorem jl {ms:Na} {h:Nat} {o:MO} (e:qr ms h=some o):(h,o)∈ms:=by rw[lookM_eq] at e;exact ke e
theorem sel_sub {ms:Na} {ns:List Nat} {h:Nat} {o:MO} (e:qr (sel ms ns) h=some o):qr ms h=some o:=sel_mem (jl e)
noncomputable def jX (ms:Na):Nat->List Nat->List Nat->List Nat
 | 0,_,seen=>seen
 | _+1,[],seen=>seen
 | n+1,h::l,seen=>bif seen.any (Nat.beq h) then jX ms n l seen else
  match qr ms h with
  | some o=>jX ms n (o.refs++l) (h::seen)
  | none=>jX ms n l seen
noncomputable def jH (ms:Na) (h:Nat):Bool:=match qr ms h with|some _=>true|none=>false
theorem kj {ms:Na} {h:Nat}:jH ms h=true↔∃ o,qr ms h=some o:=by grind [jH]
noncomputable def q7 (ms:Na):Bool:=ms.all fun p=>p.2.refs.all (jH ms)
theorem ko {ms:Na} (h:q7 ms=true):∀ k o,qr ms k=some o->∀ j∈o.refs,∃ o',qr ms j=some o':=by
 intro k o hk j hj
 have:=zr.1 h _ (jl hk)
 exact kj.1 (zr.1 this j hj)
def testB (m t:Nat):Bool:=Nat.beq (Nat.land (Nat.shiftRight m t) 1) 1
theorem testB_eq (m t:Nat):testB m t=Nat.testBit m t:=by
 show Nat.beq ((m >>> t) &&&1) 1=((1 &&&(m >>> t)) != 0)
 rw[Nat.and_comm,Nat.one_and_eq_mod_two]
 rcases Qy (m >>> t) with h|h<;>rw[h]<;>rfl
noncomputable def keepF (m:Nat) (l:List (Nat×DV)):List (Nat×DV):=
 List.rec (motive:=fun _=>Nat->List (Nat×DV)) (fun _=>[]) (fun p _ ih m=>Bool.rec (motive:=fun _=>List (Nat×DV)) (ih m) (p::ih (Nat.xor m (Nat.pow 2 p.1))) (testB m p.1)) l m
theorem keepF_cons (m t:Nat) (d:DV) (l:List (Nat×DV)):keepF m ((t,d)::l)=if Nat.testBit m t then (t,d)::keepF (m ^^^ 2 ^ t) l else keepF m l:=by
 show Bool.rec (motive:=fun _=>List (Nat×DV)) (keepF m l) ((t,d)::keepF (m ^^^ 2 ^ t) l) (testB m t)=_
 rw[testB_eq]
 cases Nat.testBit m t<;>rfl
theorem getT_keepF:∀ (l:List (Nat×DV)) (m t:Nat),jJ (keepF m l) t=if Nat.testBit m t then jJ l t else .dead
 | [],m,t=>by simp[keepF,getT_nil]
 | (k,d)::l,m,t=>by
  rw[keepF_cons]
  cases hk:Nat.testBit m k with
  | true=>
   simp only[ql,jF]
   by_cases e:k=t
   ·subst e;simp[hk]
   rw[WJ e,WJ e,getT_keepF l]
   have:Nat.testBit (m ^^^ 2 ^ k) t=Nat.testBit m t:=by grind
   rw[this]
  | false=>
   simp only[qk,qm,jF,getT_keepF l]
   grind
def maxN:Na->Nat->Nat
 | [],m=>m
 | (k,_)::l,m=>maxN l (bif Nat.ble m k then k else m)
theorem maxN_le:∀ (l:Na) (m:Nat),m<=maxN l m/\∀ p∈l,p.1<=maxN l m
 | [],m=>⟨zB _,by simp⟩
 | (k,o)::l,m=>by
  simp only[maxN]
  cases hb:Nat.ble m k with
  | true=>
   obtain⟨h1,h2⟩:=maxN_le l k
   have hmk:=zW hb
   grind
  | false=>
   obtain⟨h1,h2⟩:=maxN_le l m
   grind [Nat.ble_eq_true_of_le]
abbrev Orc:=FuncId->Nat->List DV->Na->Option (DV×Na)
def kX (P:Program) (O:Orc):Prop:=∀ f lo ds l val ms,O f lo ds l=some (val,ms)->qA P f ds (qr l) val ms
def tgtX (d:DV):Option (FuncId×List DV×List DV):=
 match d with
 | .pv (.fn (.func fid) first caps)=>some (fid,first.map .pv,caps.map .pv)
 | .clos (.func fid) first caps=>some (fid,first,caps)
 | _=>none
noncomputable def callE (O:Orc) (lo:Nat) (c:Call) (ev:Operand->DV) (ms:Na):Option (DV×Na):=
 match c.callee with
 | .value f=>
  match tgtX (ev f) with
  | some (fid,first,caps)=>
   let ds:=first++c.args.toList.map ev++caps
   match DV.qL ds with
   | []=>match O fid lo ds [] with
    | some (val,out)=>bif out.all (fun p=>!jH ms p.1) then some (val,out) else none
    | none=>none
   | rs=>
    let l:=sel ms (jX ms 10000 rs [])
    bif q7 l then
     match O fid lo ds l with
     | some (val,out)=>bif out.all (fun p=>jH l p.1||!jH ms p.1) then some (val,out) else none
     | none=>none
    else none
  | none=>none
 | _=>none
noncomputable def genE (O:Orc) (Y:Tab) (lo nm:Nat) (o:Oper) (ev:Operand->DV) (ms:Na):Option (DV×Na):=
 match o.op with
 | .call c=>match c.callee with
  | .builtin _=>match effV Y nm o.dst o.op ev (qr ms) with
   | some ⟨true,v,m⟩=>some (v,m)
   | _=>none
  | _=>callE O lo c ev ms
 | _=>match effV Y nm o.dst o.op ev (qr ms) with
  | some ⟨true,v,m⟩=>some (v,m)
  | _=>none
def qE (r:Option (Bool×DV)):Option (DV×Na):=
 match r with
 | some (true,d)=>some (d,[])
 | _=>none
def mvE (d:DV):Option (DV×Na):=
 match d with
 | .dead=>none
 | d=>some (d,[])
def binE (Y:Tab) (op:BinOp) (t:TypeId) (look:Nat->Option MO) (cn:Bool) (x y:DV):Option (DV×Na):=qE (binW Y op t look cn x y)
def ileF (a b:Int):Bool:=match a,b with
 | .ofNat x,.ofNat y=>Nat.ble x y
 | .ofNat _,.negSucc _=>false
 | .negSucc _,.ofNat _=>true
 | .negSucc x,.negSucc y=>Nat.ble y x
theorem ileF_eq (a b:Int):ileF a b=decide (a<=b):=by
 rw[zL,decide_eq_true_iff]
 rcases a with x|x<;>rcases b with y|y
 ·show Nat.ble x y=true↔_;rw[Wr];show x<=y↔(x:Int)<=y;omega
 ·show false=true↔_;constructor
  ·intro h;cases h
  grind
 ·show true=true↔_;constructor
  ·grind
  intro _;rfl
 show Nat.ble y x=true↔_;rw[Wr];omega
def ieqF (a b:Int):Bool:=match a,b with
 | .ofNat x,.ofNat y=>Nat.beq x y
 | .ofNat _,.negSucc _=>false
 | .negSucc _,.ofNat _=>false
 | .negSucc x,.negSucc y=>Nat.beq x y
theorem ieqF_eq (a b:Int):ieqF a b=(a==b):=by
 rw[zL,Wv]
 rcases a with x|x<;>rcases b with y|y
 ·show Nat.beq x y=true↔_;rw[Wq];show x=y↔(x:Int)=y;omega
 ·show false=true↔_;constructor
  ·intro h;cases h
  intro h;cases h
 ·show false=true↔_;constructor
  ·intro h;cases h
  intro h;cases h
 show Nat.beq x y=true↔_;rw[Wq];omega
def bB (b:Bool):Option (DV×Na):=some (lit (.bool b),[])
def r64 (n:Int):Option (DV×Na):=match n with
 | .ofNat x=>bif Nat.blt x 9223372036854775808 then some (lit (.int .i64 (.ofNat x)),[]) else none
 | .negSucc x=>bif Nat.blt x 9223372036854775808 then some (lit (.int .i64 (.negSucc x)),[]) else none
theorem r64_eq (n:Int):r64 n=qE (some (in64 n,lit (.int .i64 n))):=by
 have h:in64 n=(match n with| .ofNat x=>Nat.blt x 9223372036854775808| .negSucc x=>Nat.blt x 9223372036854775808):=by
  unfold in64
  rw[zL,decide_eq_true_iff]
  rcases n with x|x<;>simp only[Ws,Int.ofNat_eq_natCast]<;>omega
 rw[h]
 rcases n with x|x<;>simp only[r64,qE]<;>cases Nat.blt x 9223372036854775808<;>rfl
def i64F (Y:Tab) (op:BinOp) (t:TypeId) (a b:Int):Option (DV×Na):=
 match op with
 | .add=>r64 (Int.add a b)
 | .sub=>r64 (Int.sub a b)
 | .mul=>r64 (Int.mul a b)
 | .eql=>bB (ieqF a b)
 | .neq=>bB (not (ieqF a b))
 | .lss=>bB (not (ileF b a))
 | .leq=>bB (ileF a b)
 | .gtr=>bB (not (ileF a b))
 | .geq=>bB (ileF b a)
 | op=>qE (binQ Y op t (lit (.int .i64 a)) (lit (.int .i64 b)))
theorem i64F_eq (Y:Tab) (op:BinOp) (t:TypeId) (a b:Int):i64F Y op t a b=qE (binQ Y op t (lit (.int .i64 a)) (lit (.int .i64 b))):=by
 have h1:∀ x y:Int,(!decide (y<=x))=decide (x<y):=by grind
 cases op<;>first
  | rfl
  | (simp only[i64F,r64_eq];rfl)
  | (simp only[i64F,bB,ieqF_eq,ileF_eq,h1];rfl)
def binF (Y:Tab) (op:BinOp) (t:TypeId) (look:Nat->Option MO) (cn:Bool) (x y:DV):Option (DV×Na):=
 match x with
 | .pv (.lit (.int .i64 a))=>match y with
  | .pv (.lit (.int .i64 b))=>i64F Y op t a b
  | y=>binE Y op t look cn (.pv (.lit (.int .i64 a))) y
 | x=>binE Y op t look cn x y
theorem binF_eq:binF=binE:=by
 funext Y op t look cn x y
 unfold binF
 split
 ·split
  ·rw[i64F_eq];rfl
  rfl
 rfl
def extE (d:DV) (i:Nat):Option (DV×Na):=
 qE (match d with
  | .tup ds=>match ds[i]? with
   | some d=>some (true,d)
   | none=>none
  | _=>none)
noncomputable def effX (O:Orc) (Y:Tab) (lo nm:Nat) (o:Oper) (ev:Operand->DV) (ms:Na):Option (DV×Na):=
 match o.op with
 | .move x=>mvE (ev x)
 | .assign x=>mvE (ev x)
 | .binOp op t x y _=>binF Y op t (qr ms) (Z2 y) (ev x) (ev y)
 | .load t a=>qE (Z4 Y t (qr ms) (ev a))
 | .fieldAddr t x f=>qE (kf Y t f (qr ms) (ev x))
 | .extract x i=>extE (ev x) i
 | .indexAddr t x i=>qE (jT Y t (qr ms) (ev x) (ev i))
 | .index t x i=>qE (indexQ Y t (ev x) (ev i))
 | .convert s t x=>match s2bV Y s t (ev x) with
  | some ⟨true,v,m⟩=>some (v,m)
  | some _=>none
  | none=>qE (convW Y s t (qr ms) (ev x))
 | .unOp op _ x=>qE (unQ op (ev x))
 | _=>genE O Y lo nm o ev ms
theorem lift_qE (r:Option (Bool×DV)):(match Z0 r with|some ⟨true,v,m⟩=>some (v,m)|_=>none)=qE r:=by
 unfold Z0 qE
 grind
theorem effX_eq (O:Orc) (Y:Tab) (lo nm:Nat) (o:Oper) (ev:Operand->DV) (ms:Na):effX O Y lo nm o ev ms=genE O Y lo nm o ev ms:=by
 obtain⟨dst,op,ty,pos,after,guard⟩:=o
 have quick:∀ {r:Option (Bool×DV)},stepV Y nm dst op ev (qr ms) (qr ms)=Z0 r->effV Y nm dst op ev (qr ms)=stepV Y nm dst op ev (qr ms) (qr ms)->
   (match effV Y nm dst op ev (qr ms) with|some ⟨true,v,m⟩=>some (v,m)|_=>none)=qE r:=by
  intro r h1 h2
  rw[h2,h1];exact lift_qE r
 have hconv:∀ s t x,(match s2bV Y s t (ev x) with|some ⟨true,v,m⟩=>some (v,m)|some _=>none|none=>qE (convW Y s t (qr ms) (ev x))) =
   (match effV Y nm dst (.convert s t x) ev (qr ms) with|some ⟨true,v,m⟩=>some (v,m)|_=>none):=by
  intro s t x
  simp only[effV]
  rcases s2bV Y s t (ev x) with _|⟨b,v,m⟩
  ·exact (lift_qE _).symm
  cases b<;>rfl
 cases op<;>first
  | rfl
  | (simp only[effX,genE];first
    | (exact (quick (r:=match ev _ with| .dead=>none|d=>some (true,d)) Z Z).symm▸(by unfold mvE qE;split<;>simp_all))
    | (rw[binF_eq];exact (quick Z Z).symm)
    | exact hconv _ _ _
    | exact (quick Z Z).symm)
section
variable {P:Program} {Y:Tab} [qH P Y] {O:Orc} {G:Gh} {w:World} {a:Act} {s:St}
theorem allHas {l ms:Na} {out:Na} (h:out.all (fun p=>jH l p.1||!jH ms p.1)=true):∀ h,h∈out.map (·.1)->qr l h=none->qr ms h=none:=by
 intro k hk hl
 obtain⟨p,hp,rfl⟩:=zE.1 hk
 have:=zr.1 h p hp
 simp only[Jr,XP] at this
 rcases this with e|e
 ·obtain⟨o,ho⟩:=kj.1 e;rw[ho] at hl;cases hl
 unfold jH at e
 split at e
 ·cases e
 assumption
theorem tgtX_sound {R:Rd} {d:DV} {v:Value} {fid:FuncId} {first caps:List DV} (h:tgtX d=some (fid,first,caps)) (hv:qt G R d v) :
  ∃ x y,v=.func (.func fid) x y/\qz G R first x.toList/\qz G R caps y.toList:=by
 unfold tgtX at h
 split at h
 ·cases h
  simp only[qt,qI] at hv
  obtain⟨x,y,e,h1,h2⟩:=hv
  exact⟨x,y,e,Zv.2 h1,Zv.2 h2⟩
 ·grind [qt]
 cases h
theorem callE_ok (hO:kX P O) {c:Call} {ev:Operand->DV} {ms:Na} {val:DV} {out:Na} {lo:Nat} (h:callE O lo c ev ms=some (val,out)) :
  ∃ f fid first caps,c.callee=.value f/\tgtX (ev f)=some (fid,first,caps)/\qA P fid (first++c.args.toList.map ev++caps) (qr ms) val out:=by
 unfold callE at h
 split at h
 ·rename_i f hc
  split at h
  ·rename_i fid first caps ht
   refine⟨f,fid,first,caps,hc,ht,?_⟩
   simp only at h
   split at h
   ·rename_i hr
    split at h
    ·rename_i v o ho
     cases hq:o.all (fun p=>!jH ms p.1) with
     | false=>rw[hq] at h;cases h
     | true=>
      rw[hq] at h
      cases h
      refine (hO _ _ _ _ _ _ ho).frame (fun h o e=>by cases e) (fun k o h e=>by cases e) ?_
      refine allHas (l:=[]) ?_
      grind
    cases h
   rename_i rs hr
   cases hcl:q7 (sel ms (jX ms 10000 (DV.qL (first++c.args.toList.map ev++caps)) [])) with
   | false=>rw[hcl] at h;cases h
   | true=>
    rw[hcl] at h
    simp only[Wy] at h
    split at h
    ·rename_i v o ho
     cases hq:o.all (fun p=>jH (sel ms (jX ms 10000 (DV.qL (first++c.args.toList.map ev++caps)) [])) p.1||!jH ms p.1) with
     | false=>rw[hq] at h;cases h
     | true=>
      rw[hq] at h
      cases h
      exact (hO _ _ _ _ _ _ ho).frame (fun h o e=>sel_sub e) (fun k o h e hh=>ko hcl k o e h hh) (allHas hq)
    cases h
  cases h
 cases h
theorem effX_sound (hO:kX P O) {ev:Operand->DV} {ms:Na} (C:Ctx G w a.eval ev (qr ms) (qr ms)) (M:ZZ G (qr ms) w) {lo nm:Nat} {o:Oper} {val:DV} {m:Na}
  (h:effX O Y lo nm o ev ms=some (val,m)) {next:Act->World->Prop} {Q:Exit->Act->World->Prop}
  (hn:∀ r w' G',Stepped G w (qr ms) val m G' w' r->next (a.put o.dst r) w'):o.wp P a w next Q:=by
 have plain:(match effV Y nm o.dst o.op ev (qr ms) with|some ⟨true,v,m⟩=>some (v,m)|_=>none)=some (val,m)->o.wp P a w next Q:=by
  intro h
  split at h
  ·rename_i v m' he
   cases h
   obtain⟨r,w',G',hrun,S⟩:=effV_sound (P:=P) C M he rfl
   have:=hn r w' G' S
   unfold Oper.wp
   rcases hrun with hrun|⟨hrun,rfl⟩
   ·rw[hrun];exact this
   rw[hrun];exact this
  cases h
 rw[effX_eq] at h
 unfold genE at h
 split at h
 ·rename_i c hc
  split at h
  ·exact plain h
  obtain⟨f,fid,first,caps,hcal,ht,H⟩:=callE_ok hO h
  obtain⟨x,y,ef,h1,h2⟩:=tgtX_sound ht (C.sees.ev f)
  have hargs:qz G (G.rd w) (c.args.toList.map ev) (c.args.toList.map a.eval):=Zi C.sees _
  have hall:qz G (G.rd w) (first++c.args.toList.map ev++caps) (x++c.args.map a.eval++y).toList:=by
   simp only[Xk,Array.toList_map]
   exact (h1.append hargs).append h2
  have hexec:(execOp a.eval o).run P w=(callFunc fid (x++c.args.map a.eval++y)).run P w:=by simp only[execOp,hc,resolve,hcal,ef,Deferred.ofValue,qp,qq,qo,invoke]
  unfold Oper.wp
  rcases H.call G w _ M hall with ⟨he,hcalls⟩|⟨r,w',he,G',S⟩
  ·rw[hexec,he,Oper.upon_enter]
   refine Calls.mono hcalls ?_
   grind
  rw[hexec,he]
  exact hn r w' G' S
 exact plain h
def dstOk (n:Nat) (d:Option Tmp):Bool:=match d with|some d=>Nat.blt d n|none=>true
theorem dstOk_lt {n:Nat} {d:Option Tmp} (h:dstOk n d=true) (hn:a.tmps.size=n):∀ t,d=some t->t<a.tmps.size:=by grind [dstOk,Nat.blt_eq]
theorem Inv.ctxS (I:Inv G s.vw a w):Ctx G w a.eval (evS s) (qr s.ms) (qr s.ms):=by
 refine⟨⟨kG I,fun h m hm=>I.ms h m hm,I.sees.1,I.sees.2⟩,fun h o ho=>ho,?_,I.fresh⟩
 rintro k (⟨x,hk⟩|⟨k',o,ho,hk⟩)
 ·obtain⟨t,ht⟩:=evS_refs hk
  exact I.refsT t k ht
 exact I.refsM k' o k ho hk
end
noncomputable def gcX (nb:Nat) (s:St):Option St:=
 match s.ms with
 | []=>some s
 | _=>
  let ms':=sel s.ms (jX s.ms 20000 (s.tm.flatMap (fun p=>p.2.refs)++(s.ms.filter fun p=>Nat.blt p.1 nb).map (·.1)) [])
  bif q7 ms'&&s.tm.all (fun p=>p.2.refs.all (jH ms'))&&s.ms.all (fun p=>Nat.ble nb p.1||jH ms' p.1) then some ⟨s.tm,ms'⟩ else none
noncomputable def iterX (gc:St->Option St) (f:St->Option (Exit×St)) (n:Nat) (s:St):Option (Exit×St):=
 Nat.rec (motive:=fun _=>St->Option (Exit×St)) (fun _=>none) (fun _ ih s=>match f s with
  | some (.normal,s')=>match gc s' with
   | some s''=>ih s''
   | none=>none
  | r=>r) n s
theorem iterX_succ (gc:St->Option St) (f:St->Option (Exit×St)) (n:Nat) (s:St):iterX gc f (n+1) s=match f s with
  | some (.normal,s')=>match gc s' with
   | some s''=>iterX gc f n s''
   | none=>none
  | r=>r:=rfl
structure FnI where
 n:Nat
 kp:Nat
 res:Array ResultVar
 body:Option Code
def jd (ops:Array Oper):Nat->Nat->Nat->Bool
 | 0,_,_=>false
 | f+1,j,i=>match ops[j]? with
  | some o=>o.after.toList.any fun e=>Region.binds .any e&&(Nat.beq e.on i||jd ops f e.on i)
  | none=>false
def useS (ops:Array Oper) (o:Oper):List Tmp:=
 o.dst.toList++(tmpsOf o.op.operands.toList++(match o.guard with|some (g,_)=>((ops[g]?).bind (·.dst)).toList|none=>[]))
def clashS (ops:Array Oper) (o p:Oper):Bool:=o.dst.toList.any fun t=>(useS ops p).any (Nat.beq t)
def slotAgainst (ops:Array Oper) (i:Nat) (o:Oper):Nat->List Oper->Bool
 | _,[]=>true
 | j,p::l=>(!(clashS ops o p||clashS ops p o)||jd ops 8 j i)&&slotAgainst ops i o (j+1) l
def slotPairs (ops:Array Oper):Nat->List Oper->Bool
 | _,[]=>true
 | i,o::l=>o.after.toList.all (fun e=>!Region.binds .any e||Nat.blt e.on i)&&slotAgainst ops i o (i+1) l&&slotPairs ops (i+1) l
def slotsOk (ops:Array Oper):Bool:=slotPairs ops 0 ops.toList
def jh (n:Nat):Code->Bool
 | .seq x y=>jh n x&&jh n y
 | .cond _ x y=>jh n x&&jh n y
 | .block _ c=>jh n c
 | .loop c=>jh n c
 | .scope c=>jh n c
 | .region _ ops dr=>(ops.toList.all fun o=>dstOk n o.dst)&&(!dr||slotsOk ops)
 | _=>true
section
variable {P:Program} {Y:Tab} [qH P Y] {O:Orc} {F:FnI} {nb:Nat} {drawn:Array Oper->St->Option St}
theorem Inv.keepF {G:Gh} {s:St} {a:Act} {w:World} (I:Inv G s.vw a w) (K m:Nat) :
  ∃ G',Inv G' (St.vw ⟨Go.Lens.keepF m s.tm,s.ms⟩) a w/\Since K (qr s.ms) G w (qr s.ms) G' w:=by
 refine I.keep (fun t=>?_) (fun h o ho=>ho) (fun h o _ ho=>⟨o,ho⟩) (fun t h hh=>?_) (fun k o hk h hh=>I.refsM k o h hk hh)
 ·grind [getT_keepF]
 rw[getT_keepF] at hh
 split at hh
 ·exact I.refsT t h hh
 simp[DV.refs] at hh
theorem getT_mem {l:List (Nat×DV)} {t h:Nat} (hh:h∈(jJ l t).refs):∃ p∈l,h∈p.2.refs:=by
 induction l with
 | nil=>simp[getT_nil,DV.refs] at hh
 | cons p l ih=>
  grind [jF]
theorem Inv.gcX {G:Gh} {s s':St} {a:Act} {w:World} (I:Inv G s.vw a w) (h:Go.Lens.gcX nb s=some s') :
  ∃ G',Inv G' s'.vw a w/\Since nb (qr s.ms) G w (qr s'.ms) G' w:=by
 unfold Go.Lens.gcX at h
 split at h
 ·cases h;exact⟨G,I,Since.refl _ _ _ _⟩
 simp only at h
 generalize hms:sel s.ms (jX s.ms 20000 (s.tm.flatMap (fun p=>p.2.refs)++(s.ms.filter fun p=>Nat.blt p.1 nb).map (·.1)) [])=ms' at h
 cases hq:(q7 ms'&&s.tm.all (fun p=>p.2.refs.all (jH ms'))&&s.ms.all (fun p=>Nat.ble nb p.1||jH ms' p.1)) with
 | false=>rw[hq] at h;cases h
 | true=>
  rw[hq] at h
  cases h
  simp only[zj,zr] at hq
  obtain⟨⟨h1,h2⟩,h3⟩:=hq
  refine I.keep (fun t=>.inl Z) (fun h o ho=>?_) (fun h o hk ho=>?_) (fun t h hh=>?_) (ko h1)
  ·rw[<-hms] at ho;exact sel_sub ho
  ·have:=h3 _ (jl ho)
   simp only[Jr,Wr] at this
   rcases this with e|e
   ·omega
   exact kj.1 e
  obtain⟨p,hp,hh'⟩:=getT_mem hh
  exact kj.1 (h2 p hp h hh')
end
end Go.Lens
end
section
namespace Go.Lens
variable [Lz]
def zipT:Nat->List DV->List (Nat×DV)
 | _,[]=>[]
 | i,d::ds=>(i,d)::zipT (i+1) ds
noncomputable def resX (Y:Tab) (s:St):List ResultVar->Option (List DV)
 | []=>some []
 | .tmp t::l=>match resX Y s l with
  | some ds=>some (jJ s.tm t::ds)
  | none=>none
 | .cell t ty::l=>match Z4 Y ty (qr s.ms) (jJ s.tm t),resX Y s l with
  | some (true,d),some ds=>some (d::ds)
  | _,_=>none
def oneD:List DV->DV
 | [d]=>d
 | ds=>.tup ds
mutual
def rslv (look:Nat->Option MO):DV->DV
 | .agg ds=>mkAgg (rslvL look ds)
 | .pv p=>.pv p
 | .nils=>.nils
 | d=>match pvOf look d with
  | some p=>.pv p
  | none=>d
def rslvL (look:Nat->Option MO):List DV->List DV
 | []=>[]
 | d::ds=>rslv look d::rslvL look ds
end
noncomputable def kY (Y:Tab) (F:FnI) (nb:Nat) (l:Na) (s:St):Option (DV×Na):=
 match resX Y s F.res.toList with
 | some ds=>
  let val:=oneD (rslvL (qr s.ms) ds)
  let ms':=sel s.ms (jX s.ms 20000 (val.refs++l.map (·.1)) [])
  bif q7 ms'&&val.refs.all (jH ms')&&l.all (fun p=>jH ms' p.1) then some (val,ms') else none
 | none=>none
section
variable {P:Program} {Y:Tab} [qH P Y] {G:Gh} {w:World} {a:Act} {s:St}
mutual
theorem rslv_sound {look:Nat->Option MO} (hl:∀ h m,look h=some m->qW G w h m):∀ (d:DV) (v:Value),qt G (G.rd w) d v->qt G (G.rd w) (rslv look d) v
 | .agg ds,v,h=>by
  simp only[rslv]
  simp only[qt] at h
  obtain⟨vs,rfl,ho,hv⟩:=h
  have:=RelDV_mkAgg ho (rslvL_sound hl ds _ hv)
  simpa using this
 | .pv p,v,h=>by simpa only[rslv] using h
 | .dead,v,h=>by simp only[rslv,pvOf];exact h
 | .nils,v,h=>by simpa only[rslv] using h
 | .gd c d,v,h=>by simp only[rslv,pvOf];exact h
 | .bref a b,v,h=>by
  simp only[rslv]
  split
  ·rename_i p hp;exact jC hl hp h
  exact h
 | .aref a b,v,h=>by
  simp only[rslv]
  split
  ·rename_i p hp;exact jC hl hp h
  exact h
 | .atrunc a b c,v,h=>by
  simp only[rslv]
  split
  ·rename_i p hp;exact jC hl hp h
  exact h
 | .eref a b c d,v,h=>by simp only[rslv,pvOf];exact h
 | .awin a b c d,v,h=>by simp only[rslv,pvOf];exact h
 | .mref a,v,h=>by
  simp only[rslv]
  split
  ·rename_i p hp;exact jC hl hp h
  exact h
 | .tup ds,v,h=>by simp only[rslv,pvOf];exact h
 | .yld a b c e f,v,h=>by simp only[rslv,pvOf];exact h
 | .clos f x y,v,h=>by
  simp only[rslv]
  split
  ·rename_i p hp;exact jC hl hp h
  exact h
theorem rslvL_sound {look:Nat->Option MO} (hl:∀ h m,look h=some m->qW G w h m):∀ (ds:List DV) (vs:List Value),qz G (G.rd w) ds vs->qz G (G.rd w) (rslvL look ds) vs
 | [],vs,h=>by simpa only[rslvL] using h
 | d::ds,vs,h=>by
  simp only[rslvL,qz] at h ⊢
  obtain⟨v,vs',e,h1,h2⟩:=h
  exact⟨v,vs',e,rslv_sound hl d v h1,rslvL_sound hl ds vs' h2⟩
end
theorem asAddr_of_load {w:World} {a:Act} {s:St} (I:Inv G s.vw a w) {ty:TypeId} {d r:DV} {sd:Bool} {u:Value} (hp:Z4 Y ty (qr s.ms) d=some (sd,r)) (hv:qt G (G.rd w) d u):∃ x,u=.pointer (some x):=by
 unfold Z4 at hp
 split at hp
 ·split at hp
  ·grind [qt,qI]
  ·grind [qt]
  ·rename_i hh v i c
   split at hp
   ·rename_i v' _ _ es hl
    split at hp
    ·rename_i hvv
     subst hvv
     simp only[qt] at hv
     obtain⟨b,o,_,e⟩:=hv.2 (I.ms _ _ hl).2.1
     exact⟨_,e⟩
    cases hp
   cases hp
  cases hp
 cases hp
theorem resX_sound (I:Inv G s.vw a w):∀ (l:List ResultVar) {ds:List DV},resX Y s l=some ds->
  ∃ vs,(l.mapM (m:=Sem) fun| .tmp t=>pure (a.tmps.getD t undef)| .cell c t=>do loadVar t (<-asAddr (a.tmps.getD c undef))).run P w=.ok vs w/\qz G (G.rd w) ds vs
 | [],ds,h=>by
  simp only[resX] at h
  cases h
  exact⟨[],rfl,by simp[qz]⟩
 | .tmp t::l,ds,h=>by
  simp only[resX] at h
  split at h
  ·rename_i ds' hr
   cases h
   obtain⟨vs,h1,h2⟩:=resX_sound I l hr
   have hv:qt G (G.rd w) (jJ s.tm t) (a.tmps.getD t undef):=I.ts t
   grind [qz,Sem.run_bind,Sem.run_pure,Result.andThen_ok]
  cases h
 | .cell t ty::l,ds,h=>by
  simp only[resX] at h
  split at h
  ·rename_i d ds' hp hr
   cases h
   obtain⟨vs,h1,h2⟩:=resX_sound I l hr
   have hv:qt G (G.rd w) (jJ s.tm t) (a.tmps.getD t undef):=I.ts t
   have hsees:Sees G w a.eval (evS s) (qr s.ms):=⟨kG I,fun h m hm=>I.ms h m hm,I.sees.1,I.sees.2⟩
   obtain⟨r,h3,h4⟩:=Z8 (P:=P) hsees hp hv
   refine⟨r::vs,?_,by simp only[qz];exact⟨_,_,rfl,h4,h2⟩⟩
   have h5:(do loadVar ty (<-asAddr (a.tmps.getD t undef)):Sem Value).run P w=.ok r w:=by
    rw[<-h3]
    unfold Instr.loadAt
    obtain⟨x,e⟩:=asAddr_of_load I hp hv
    rw[e]
    simp[asAddr,Instr.sureAddr]
   grind [Sem.run_bind,Result.andThen_ok,Sem.run_pure]
  cases h
theorem getT_zipT (G:Gh) (R:Rd):∀ (ds:List DV) (vs:List Value) (i t:Nat),qz G R ds vs->t<i\/qt G R (jJ (zipT i ds) t) ((vs[t-i]?).getD undef)
 | [],vs,i,t,h=>.inr (by simp only[zipT,getT_nil,qt])
 | p::ps,vs,i,t,h=>by
  simp only[qz] at h
  obtain⟨v,vs',rfl,h1,h2⟩:=h
  rcases KJ t i with hlt|hge
  ·exact .inl hlt
  right
  simp only[zipT,jF]
  by_cases e:i=t
  ·grind
  rw[WJ e]
  rcases getT_zipT G R ps vs' (i+1) t h2 with h3|h3
  ·omega
  grind
theorem kH:∀ (ps:List DV) (i t:Nat),i+ps.length<=t->jJ (zipT i ps) t=.dead
 | [],i,t,_=>rfl
 | p::ps,i,t,h=>by
  simp only[zb] at h
  simp only[zipT,jF]
  rw[WJ aa]
  exact kH ps (i+1) t aa
theorem refs_zipT:∀ (ps:List DV) (i t h:Nat),h∈(jJ (zipT i ps) t).refs->h∈DV.qL ps
 | [],i,t,h,hh=>by simp[zipT,getT_nil,DV.refs] at hh
 | p::ps,i,t,h,hh=>by
  simp only[zipT,jF] at hh
  simp only[DV.qL,zH]
  split at hh
  ·exact .inl hh
  exact .inr (refs_zipT ps (i+1) t h hh)
theorem oneD_rel {ds:List DV} {vs:List Value} (h:qz G (G.rd w) ds vs):qt G (G.rd w) (oneD ds) (if h:vs.toArray.size=1 then vs.toArray[0] else .tuple vs.toArray):=by
 have hlen:=h.length
 unfold oneD
 split
 ·grind [qz]
 rename_i hne
 have:¬vs.toArray.size=1:=by
  simp only[XZ]
  intro e
  rw[e] at hlen
  match ds,hlen with
  | [d],_=>exact hne d rfl
 rw[WH this]
 grind [qt]
theorem closeX_sound {l:Na} {F:FnI} {nb:Nat} {fn:Func} {val:DV} {ms':Na} {G':Gh} {w':World} (hres:fn.results=F.res) (M:ZZ G (qr l) w) (I':Inv G' s.vw a w')
  (Sn:Since nb (qr l) G w (qr s.ms) G' w') (hnb:∀ h o,qr l h=some o->h<nb) (h:kY Y F nb l s=some (val,ms')) :
  ∃ v,(results fn a.tmps).run P w'=.ok v w'/\∃ G'',Stepped G w (qr l) val ms' G'' w' v:=by
 unfold kY at h
 split at h
 ·rename_i ds hds
  simp only at h
  generalize hv:oneD (rslvL (qr s.ms) ds)=v1 at h
  generalize hms2:sel s.ms (jX s.ms 20000 (v1.refs++l.map (·.1)) [])=ms2 at h
  cases hq:(q7 ms2&&v1.refs.all (jH ms2)&&l.all (fun p=>jH ms2 p.1)) with
  | false=>rw[hq] at h;cases h
  | true=>
   rw[hq] at h
   cases h
   simp only[zj,zr] at hq
   obtain⟨⟨q1,q2⟩,q3⟩:=hq
   obtain⟨vs,h1,h2⟩:=resX_sound (P:=P) I' _ hds
   have hrs:=rslvL_sound (fun h m hm=>I'.ms h m hm) ds vs h2
   have hval:=oneD_rel hrs
   have hrun:(results fn a.tmps).run P w'=.ok (if h:vs.toArray.size=1 then vs.toArray[0] else .tuple vs.toArray) w':=by
    unfold results
    rw[hres,qp,QA]
    grind [map_eq_pure_bind,Sem.run_bind,Result.andThen_ok,Sem.run_pure]
   refine⟨_,hrun,?_⟩
   have hval':qt G' (G'.rd w') val (if h:vs.toArray.size=1 then vs.toArray[0] else .tuple vs.toArray):=by rw[<-hv];exact hval
   refine Since.close (K:=nb) (σ':=s.vw) M I' Sn hnb hval' ?_ ?_ ?_ ?_
   ·intro h o hm
    rw[<-hms2] at hm
    exact sel_mem hm
   ·intro h o ho
    obtain⟨o',ho'⟩:=kj.1 (q3 _ (jl ho))
    exact zE.2 ⟨_,jl ho',rfl⟩
   ·intro h hh
    obtain⟨o',ho'⟩:=kj.1 (q2 h hh)
    exact zE.2 ⟨_,jl ho',rfl⟩
   intro k o hk h hh
   have:=zr.1 (zr.1 q1 _ hk) h hh
   obtain⟨o',ho'⟩:=kj.1 this
   exact zE.2 ⟨_,jl ho',rfl⟩
 cases h
end
end Go.Lens
end
section
namespace Go.Lens
variable [Lz]
structure Ef where
  dst:Option Tmp
  val:DV
  ms:Na
  rd:List Nat
def stp (s:St) (e:Ef):St:=s.put e.dst e.val e.ms
noncomputable def evT (ts:List Tmp) (s:St):Operand->DV
  | .tmp t=>bif ts.any (Nat.beq t) then jJ s.tm t else .dead
  | x=>evS s x
def lvl (op:Op) (ev:Operand->DV):Nat:=match op with
  | .move _| .assign _| .nilCheck _=>0
  | .fieldAddr _ x _=>(match ev x with
    | .bref _ _=>0
    | _=>2)
  | .load _ _=>1
  | _=>2
noncomputable def nearM (ms:Na) (rs:List Nat):Na:=
  sel ms rs++((sel ms rs).flatMap fun p=>p.2.refs).map fun h=>(h,MO.gone)
noncomputable def ledM (ms:Na) (rs:List Nat):Nat->Na
  | 0=>rs.map fun h=>(h,MO.gone)
  | 1=>nearM ms rs
  | _=>sel ms (jX ms 10000 rs [])
noncomputable def rdM (ms:Na) (rs:List Nat) (l:Na):Nat->List Nat
  | 0=>[]
  | 1=>(sel ms rs).map (·.1)
  | _=>l.map (·.1)
def clashN (e e':Ef):Bool:=e.ms.any fun p=>e'.rd.any (Nat.beq p.1)||e'.ms.any fun q=>Nat.beq p.1 q.1
def efAgainst (ops:Array Oper) (i:Nat) (e:Ef):Nat->List Ef->Bool
  | _,[]=>true
  | j,e'::l=>(!(clashN e e'||clashN e' e)||jd ops 8 j i)&&efAgainst ops i e (j+1) l
def Zf (ops:Array Oper):Nat->List Ef->Bool
  | _,[]=>true
  | i,e::l=>efAgainst ops i e (i+1) l&&Zf ops (i+1) l
def stK (s:St) (es:List Ef) (S:Nat->Bool):Nat->St
  | 0=>s
  | k+1=>match es[k]? with
    | some e=>bif S k then stp (stK s es S k) e else stK s es S k
    | none=>stK s es S k
def Down (ops:Array Oper) (S:Nat->Bool):Prop:=∀ j o,S j=true->ops[j]? =some o->∀ e∈o.after.toList,Region.binds .any e=true->S e.on=true
theorem ordP_down {ops:Array Oper} {S:Nat->Bool} (D:Down ops S):∀ {f j i:Nat},jd ops f j i=true->S j=true->S i=true
  | 0,j,i,h,_=>by cases h
  | f+1,j,i,h,hj=>by
    simp only[jd] at h
    split at h
    · rename_i o ho
      obtain⟨e,he,h1⟩:=X9.1 h
      simp only[zj,Jr] at h1
      have hs:=D j o hj ho e he h1.1
      rcases h1.2 with h2|h2
      · have:=zD h2;rw[<-this];exact hs
      · exact ordP_down D h2 hs
    · cases h
theorem efAgainst_spec {ops:Array Oper} {i:Nat} {e:Ef}:∀ {l:List Ef} {j:Nat},efAgainst ops i e j l=true->∀ k e',l[k]? =some e'->(clashN e e'||clashN e' e)=true->jd ops 8 (j+k) i=true
  | [],j,h,k,e',hk,_=>by simp at hk
  | e0::l,j,h,k,e',hk,hc=>by
    simp only[efAgainst,zj] at h
    cases k with
    | zero=>
      simp only[QQ,zh] at hk
      subst hk
      rw[hc] at h
      simpa using h.1
    | succ k=>
      have:=efAgainst_spec h.2 k e' (by simpa using hk) hc
      rwa [show j+1+k=j+(k+1) from aa] at this
theorem efPairs_spec {ops:Array Oper}:∀ {l:List Ef} {i:Nat},Zf ops i l=true->∀ a b e e',a<b->l[a]? =some e->l[b]? =some e'->(clashN e e'||clashN e' e)=true->jd ops 8 (i+b) (i+a)=true
  | [],i,h,a,b,e,e',_,ha,_,_=>by simp at ha
  | e0::l,i,h,a,b,e,e',hab,ha,hb,hc=>by
    simp only[Zf,zj] at h
    cases a with
    | zero=>
      simp only[QQ,zh] at ha
      subst ha
      cases b with
      | zero=>omega
      | succ b=>
        have:=efAgainst_spec h.1 b e' aM hc
        rwa [show i+1+b=i+(b+1) from aa] at this
    | succ a=>
      cases b with
      | zero=>omega
      | succ b=>
        have:=efPairs_spec h.2 a b e e' aa (by simpa using ha) aM hc
        rwa [show i+1+b=i+(b+1) from aa,show i+1+a=i+(a+1) from aa] at this
theorem slotAgainst_spec {ops:Array Oper} {i:Nat} {o:Oper}:∀ {l:List Oper} {j:Nat},slotAgainst ops i o j l=true->∀ k p,l[k]? =some p->(clashS ops o p||clashS ops p o)=true->jd ops 8 (j+k) i=true
  | [],j,h,k,p,hk,_=>by simp at hk
  | p0::l,j,h,k,p,hk,hc=>by
    simp only[slotAgainst,zj] at h
    cases k with
    | zero=>
      simp only[QQ,zh] at hk
      subst hk
      rw[hc] at h
      simpa using h.1
    | succ k=>
      have:=slotAgainst_spec h.2 k p (by simpa using hk) hc
      rwa [show j+1+k=j+(k+1) from aa] at this
theorem slotPairs_spec {ops:Array Oper}:∀ {l:List Oper} {i:Nat},slotPairs ops i l=true->
    (∀ a b o p,a<b->l[a]? =some o->l[b]? =some p->(clashS ops o p||clashS ops p o)=true->jd ops 8 (i+b) (i+a)=true)/\(∀ a o,l[a]? =some o->∀ e∈o.after.toList,Region.binds .any e=true->e.on<i+a)
  | [],i,h=>⟨fun a b o p _ ha _ _=>by simp at ha,fun a o ha=>by simp at ha⟩
  | o0::l,i,h=>by
    simp only[slotPairs,zj] at h
    obtain⟨⟨h1,h2⟩,h3⟩:=h
    obtain⟨k1,k2⟩:=slotPairs_spec h3
    constructor
    · intro a b o p hab ha hb hc
      cases a with
      | zero=>
        simp only[QQ,zh] at ha
        subst ha
        cases b with
        | zero=>omega
        | succ b=>
          have:=slotAgainst_spec h2 b p aM hc
          rwa [show i+1+b=i+(b+1) from aa] at this
      | succ a=>
        cases b with
        | zero=>omega
        | succ b=>
          have:=k1 a b o p aa (by simpa using ha) aM hc
          rwa [show i+1+b=i+(b+1) from aa,show i+1+a=i+(a+1) from aa] at this
    · intro a o ha e he hb
      cases a with
      | zero=>
        simp only[QQ,zh] at ha
        subst ha
        have:=zr.1 h1 e he
        rw[hb] at this
        simpa [Ws] using this
      | succ a=>
        have:=k2 a o (by simpa using ha) e he hb
        omega
section
variable {s:St} {es:List Ef} {S:Nat->Bool}
theorem stK_succ {k:Nat} {e:Ef} (he:es[k]? =some e):stK s es S (k+1)=bif S k then stp (stK s es S k) e else stK s es S k:=by
  simp only[stK,he]
theorem kl {k:Nat} (he:es[k]? =none):stK s es S (k+1)=stK s es S k:=by
  simp only[stK,he]
theorem getT_stp (s:St) (e:Ef) (t:Nat):jJ (stp s e).tm t=if e.dst=some t then e.val else jJ s.tm t:=by
  unfold stp St.put putT
  cases hd:e.dst with
  | none=>simp
  | some d=>simp only[jF,zh]
theorem lookM_stp (s:St) (e:Ef) (h:Nat):qr (stp s e).ms h=match jw e.ms h with|some o=>some o|none=>qr s.ms h:=by
  unfold stp
  rw[St.put_look];rfl
theorem getT_stK {k t:Nat} {e:Ef} (he:es[k]? =some e):jJ (stK s es S (k+1)).tm t=if S k=true/\e.dst=some t then e.val else jJ (stK s es S k).tm t:=by
  rw[stK_succ he]
  cases hs:S k with
  | false=>simp
  | true=>simp[getT_stp]
theorem Z1 {k h:Nat} {e:Ef} (he:es[k]? =some e):qr (stK s es S (k+1)).ms h=if S k=true then (match jw e.ms h with|some o=>some o|none=>qr (stK s es S k).ms h) else qr (stK s es S k).ms h:=by
  rw[stK_succ he]
  cases hs:S k with
  | false=>simp
  | true=>simp[lookM_stp]
theorem stK_slot {i n t:Nat} (hin:i<=n) (hi:S i=false) (h1:∀ j e,j<i->es[j]? =some e->e.dst=some t->S j=true) (h2:∀ j e,i<j->es[j]? =some e->e.dst=some t->S j=false) :
    jJ (stK s es S n).tm t=jJ (stK s es (fun _=>true) i).tm t:=by
  have low:∀ k,k<=i->jJ (stK s es S k).tm t=jJ (stK s es (fun _=>true) k).tm t:=by
    intro k
    induction k with
    | zero=>intro _;rfl
    | succ k ih=>
      intro hk
      cases he:es[k]? with
      | none=>rw[kl he,kl he];exact ih aa
      | some e=>
        rw[getT_stK he,getT_stK he,ih aa]
        by_cases hd:e.dst=some t
        · rw[WK ⟨h1 k e aa he hd,hd⟩,WK ⟨rfl,hd⟩]
        · rw[WJ (fun h=>hd h.2),WJ (fun h=>hd h.2)]
  have high:∀ k,i<=k->jJ (stK s es S k).tm t=jJ (stK s es S i).tm t:=by
    intro k
    induction k with
    | zero => intro hk;have:i=0:=aa
              subst this;rfl
    | succ k ih=>
      intro hk
      by_cases hki:i=k+1
      · subst hki;rfl
      · cases he:es[k]? with
        | none=>rw[kl he];exact ih aa
        | some e=>
          rw[getT_stK he,ih aa,WJ]
          rintro⟨hs,hd⟩
          by_cases hk':k=i
          · subst hk';rw[hi] at hs;cases hs
          · rw[h2 k e aa he hd] at hs;cases hs
  rw[high n hin,low i (zB _)]
theorem stK_name {i n h:Nat} (hin:i<=n) (hi:S i=false) (h1:∀ j e,j<i->es[j]? =some e->h∈e.ms.map (·.1)->S j=true) (h2:∀ j e,i<j->es[j]? =some e->h∈e.ms.map (·.1)->S j=false) :
    qr (stK s es S n).ms h=qr (stK s es (fun _=>true) i).ms h:=by
  have none_of:∀ {e:Ef},¬h∈e.ms.map (·.1)->jw e.ms h=none:=fun {e} hn=>by
    cases ha:jw e.ms h with
    | none=>rfl
    | some o=>exact absurd (zE.2 ⟨_,ke ha,rfl⟩) hn
  have low:∀ k,k<=i->qr (stK s es S k).ms h=qr (stK s es (fun _=>true) k).ms h:=by
    intro k
    induction k with
    | zero=>intro _;rfl
    | succ k ih=>
      intro hk
      cases he:es[k]? with
      | none=>rw[kl he,kl he];exact ih aa
      | some e=>
        rw[Z1 he,Z1 he,ih aa,WK Z]
        by_cases hd:h∈e.ms.map (·.1)
        · rw[WK (h1 k e aa he hd)]
        · rw[none_of hd];simp
  have high:∀ k,i<=k->qr (stK s es S k).ms h=qr (stK s es S i).ms h:=by
    intro k
    induction k with
    | zero => intro hk;have:i=0:=aa
              subst this;rfl
    | succ k ih=>
      intro hk
      by_cases hki:i=k+1
      · subst hki;rfl
      · cases he:es[k]? with
        | none=>rw[kl he];exact ih aa
        | some e=>
          rw[Z1 he,ih aa]
          by_cases hd:h∈e.ms.map (·.1)
          · rw[WJ]
            intro hs
            by_cases hk':k=i
            · subst hk';rw[hi] at hs;cases hs
            · rw[h2 k e aa he hd] at hs;cases hs
          · rw[none_of hd];simp
  rw[high n hin,low i (zB _)]
theorem stK_more {i n:Nat} {e:Ef} (hin:i<n) (he:es[i]? =some e) (hi:S i=false) (hw:∀ j e',i<j->es[j]? =some e'->(e'.dst=e.dst/\e.dst≠none\/∃ h,h∈e.ms.map (·.1)/\h∈e'.ms.map (·.1))->S j=false) :
    (stK s es (fun k=>S k||Nat.beq k i) n).vw=((stK s es S n).vw.setMs e.ms).setT e.dst e.val:=by
  have S'i:(S i||Nat.beq i i)=true:=by rw[KE];simp
  have S'j:∀ {j},j≠i->(S j||Nat.beq j i)=S j:=fun {j} hj=>by
    have:Nat.beq j i=false:=Bool.eq_false_iff.mpr fun h=>hj (zD h)
    rw[this];simp
  have low:∀ k,k<=i->stK s es (fun k=>S k||Nat.beq k i) k=stK s es S k:=by
    intro k
    induction k with
    | zero=>intro _;rfl
    | succ k ih=>
      intro hk
      cases h:es[k]? with
      | none=>rw[kl h,kl h];exact ih aa
      | some e'=>rw[stK_succ h,stK_succ h,ih aa];simp only[S'j (show k≠i by omega)]
  have hT:∀ t,jJ (stK s es (fun k=>S k||Nat.beq k i) n).tm t=if e.dst=some t then e.val else jJ (stK s es S n).tm t:=by
    intro t
    have main:∀ k,i<k->k<=n->jJ (stK s es (fun k=>S k||Nat.beq k i) k).tm t=if e.dst=some t then e.val else jJ (stK s es S k).tm t:=by
      intro k
      induction k with
      | zero=>intro h;omega
      | succ k ih=>
        intro hk hkn
        by_cases hki:k=i
        · subst hki
          rw[getT_stK he,low k (zB _),getT_stK he]
          simp only[hi,KE,Kc,WF,qk,false_and,qm]
        · cases h:es[k]? with
          | none=>rw[kl h,kl h];exact ih aa aa
          | some e'=>
            rw[getT_stK h,getT_stK h,ih aa aa]
            simp only[S'j hki]
            by_cases hd:e.dst=some t
            · by_cases hd':e'.dst=some t
              · have:=hw k e' aa h (.inl ⟨hd'.trans hd.symm,by rw[hd];simp⟩)
                simp[hd,this]
              · simp[hd,hd']
            · simp[hd]
    exact main n hin (zB _)
  have hM:∀ h,qr (stK s es (fun k=>S k||Nat.beq k i) n).ms h=match jw e.ms h with|some o=>some o|none=>qr (stK s es S n).ms h:=by
    intro hh
    have main:∀ k,i<k->k<=n->qr (stK s es (fun k=>S k||Nat.beq k i) k).ms hh=match jw e.ms hh with|some o=>some o|none=>qr (stK s es S k).ms hh:=by
      intro k
      induction k with
      | zero=>intro h;omega
      | succ k ih=>
        intro hk hkn
        by_cases hki:k=i
        · subst hki
          rw[Z1 he,low k (zB _),Z1 he]
          simp only[hi,KE,Kc,ql,qk,qm]
        · cases h:es[k]? with
          | none=>rw[kl h,kl h];exact ih aa aa
          | some e'=>
            rw[Z1 h,Z1 h,ih aa aa]
            simp only[S'j hki]
            cases ha:jw e.ms hh with
            | none=>rfl
            | some o=>
              simp only
              cases hs:S k with
              | false=>simp
              | true=>
                simp only[ql]
                cases hb:jw e'.ms hh with
                | none=>rfl
                | some o'=>
                  have:=hw k e' aa h (.inr ⟨hh,zE.2 ⟨_,ke ha,rfl⟩,zE.2 ⟨_,ke hb,rfl⟩⟩)
                  rw[hs] at this;cases this
    exact main n hin (zB _)
  unfold St.vw Vw.setMs Vw.setT
  simp only
  congr 1
  · funext t
    rw[hT t]
    by_cases hd:e.dst=some t
    · rw[WK hd,WK hd.symm]
    · rw[WJ hd,WJ (fun h=>hd h.symm)]
  · funext h;exact hM h
end
inductive Tr (α:Type) where
 | nil
 | node (l:Tr α) (k:Nat) (v:α) (r:Tr α)
noncomputable def Tr.get {α:Type} (t:Tr α) (n:Nat):Option α:=
 Tr.rec (motive:=fun _=>Option α) none (fun _ k v _ il ir=>Bool.rec (motive:=fun _=>Option α) (Bool.rec (motive:=fun _=>Option α) ir il (Nat.blt n k)) (some v) (Nat.beq n k)) t
def Tr.toList {α:Type}:Tr α->List (Nat×α)
 | .nil=>[]
 | .node l k v r=>l.toList++(k,v)::r.toList
theorem Tr.get_mem {α:Type}:∀ {t:Tr α} {n:Nat} {v:α},t.get n=some v->(n,v)∈t.toList
 | .nil,n,v,h=>by cases h
 | .node l k u r,n,v,h=>by
  have h':Bool.rec (motive:=fun _=>Option α) (Bool.rec (motive:=fun _=>Option α) (r.get n) (l.get n) (Nat.blt n k)) (some u) (Nat.beq n k)=some v:=h
  simp only[Tr.toList,zH,zF]
  cases hb:Nat.beq n k with
  | true=>
   rw[hb] at h'
   cases h'
   have:=zD hb
   grind
  | false=>
   rw[hb] at h'
   cases hl:Nat.blt n k with
   | true=>rw[hl] at h';exact .inl (Tr.get_mem h')
   | false=>rw[hl] at h';exact .inr (.inr (Tr.get_mem h'))
section
variable {P:Program} {Y:Tab} [qH P Y]
theorem lookM_append (a b:Na) (h:Nat):qr (a++b) h=match jw a h with|some o=>some o|none=>qr b h:=by
 induction a with
 | nil=>rfl
 | cons p a ih=>
  obtain⟨k,o⟩:=p
  simp only[zQ,qy,jw,ih]
  split<;>rfl
end
def FtOk (P:Program) (FT:Tr FnI):Prop:=∀ p∈FT.toList,∃ fn,P.funcs[p.1]? =some fn/\fn.body=p.2.body/\fn.ntmps=p.2.n/\fn.results=p.2.res/\(∀ c,p.2.body=some c->jh p.2.n c=true)/\∀ args w,(callFunc p.1 args).run P w=.ok (.enter p.1 args) w
theorem stK_cons (s:St) (e:Ef) (es:List Ef):∀ k,stK s (e::es) (fun _=>true) (k+1)=stK (stp s e) es (fun _=>true) k
 | 0=>rfl
 | k+1=>by
  have ih:=stK_cons s e es k
  cases h:es[k]? with
  | none=>rw[kl (s:=stp s e) h,kl (s:=s) (es:=e::es) (k:=k+1) ai,ih]
  | some e'=>rw[stK_succ (s:=stp s e) h,stK_succ (s:=s) (es:=e::es) (k:=k+1) ai,ih]
theorem stK_all (s:St) (es:List Ef):stK s es (fun _=>true) es.length=es.foldl stp s:=by
 induction es generalizing s with
 | nil=>rfl
 | cons e es ih=>rw[zb,stK_cons,ih];rfl
theorem stK_congr {s:St} {es:List Ef} {S S':Nat->Bool}:∀ {n:Nat},(∀ k,k<n->S k=S' k)->stK s es S n=stK s es S' n
 | 0,_=>rfl
 | n+1,h=>by
  have ih:=stK_congr (s:=s) (es:=es) (n:=n) fun k hk=>h k aa
  simp only[stK,ih,h n aa]
section
variable {O:Orc} {Y:Tab} {nb:Nat} {ops:Array Oper}
theorem mem_tmpsOf {xs:List Operand} {t:Tmp} (h:t∈tmpsOf xs):Operand.tmp t∈xs:=by grind [tmpsOf,Option.some.injEq]
theorem clashS_of {o p:Oper} {t:Tmp} (hd:o.dst=some t) (hu:t∈useS ops p):clashS ops o p=true:=by
 unfold clashS
 rw[hd]
 simp only[Option.toList_some,List.any_cons,Ky,Bool.or_false]
 exact X9.2 ⟨t,hu,KE t⟩
theorem clashN_of {e e':Ef} {h:Nat} (h1:h∈e.ms.map (·.1)) (h2:h∈e'.rd\/h∈e'.ms.map (·.1)):clashN e e'=true:=by
 obtain⟨p,hp,rfl⟩:=zE.1 h1
 refine X9.2 ⟨p,hp,?_⟩
 rcases h2 with h2|h2
 ·rw[X9.2 ⟨p.1,h2,KE _⟩];rfl
 obtain⟨q,hq,e⟩:=zE.1 h2
 rw[X9.2 ⟨q,hq,by rw[e];exact KE _⟩,Ko]
end
section
variable {P:Program} {Y:Tab} [qH P Y] {O:Orc} {nb n:Nat} {ops:Array Oper}
theorem count_set:∀ {l:List Bool} {i:Nat},l[i]? =some false->(l.set i true).count false+1=l.count false
 | [],i,h=>by simp at h
 | b::l,0,h=>by
  grind
 | b::l,i+1,h=>by
  grind
theorem Inv.drew {G:Gh} {σ:Vw} {a:Act} {w:World} (I:Inv G σ a w) (d:Nat):Inv G σ a { w with drawn:=d }:=
 ⟨I.ts,I.size,I.ms,I.fresh,I.own,I.refsT,I.refsM,I.r0,I.r0m,I.baseLe,I.laid⟩
end
structure Ext where
 noEsc:FuncId
 mkNz:FuncId
 cnt:FuncId
 idx:FuncId
 itoa:FuncId
 bs:TypeId
 byte:TypeId
structure ExtOk (P:Program) (E:Ext):Prop where
 noEsc:∀ vs w,(callFunc E.noEsc vs).run P w=((Extern.AbiNoEscape.same vs).run P w).andThen fun v w'=>.ok (.value v) w'
 idx:∀ vs w,(callFunc E.idx vs).run P w=((Extern.BytealgIndexByte.indexByte vs).run P w).andThen fun v w'=>.ok (.value v) w'
 cnt:∀ vs w,(callFunc E.cnt vs).run P w=((Extern.BytealgCount.count vs).run P w).andThen fun v w'=>.ok (.value v) w'
 mkNz:∃ ps,∀ vs w,(callFunc E.mkNz vs).run P w=((Extern.BytealgMakeNoZero.makeNoZero ps #[E.bs] vs).run P w).andThen fun v w'=>.ok (.value v) w'
 bs:P.underlying E.bs=some (.slice E.byte)
 itoaE:∀ vs w,(callFunc E.itoa vs).run P w=.ok (.enter E.itoa vs) w
 itoa:∀ (n:Int) (_: -9223372036854775808<=n) (_:n<=9223372036854775807) (w:World) (_:Lib.TabIs P w "internal/strconv.uint64pow10" .u64 Lib.pow10Tab),
  Calls P E.itoa #[.int .i64 n] w fun e w'=>e=.returned (.string ⟨(Lib.itoa n).toArray⟩)/\w'.os=w.os/\w'.tape=w.tape/\w'.output=w.output/\∃ os,w'.heap=w.heap++os
 tab:∃ g T fr,P.globalNamed "internal/strconv.uint64pow10" =some g/\Lz.L g=some (.cells (Lib.pow10Tab.map fun z=>Value.int .u64 z).toArray T fr)
section
variable {P:Program} {G:Gh} {w:World} {look:Nat->Option MO}
theorem ZZ.ctx (M:ZZ G look w):Ctx G w (fun _=>undef) (fun _=>.dead) look look:=by
 refine⟨⟨fun _=>by simp only[qt],M.ms,M.readable.1,M.readable.2⟩,fun _ _ h=>h,?_,M.fresh⟩
 rintro h (⟨x,hx⟩|⟨k,o,ho,hh⟩)
 ·simp[DV.refs] at hx
 exact M.refsM k o h ho hh
theorem qz.one {G:Gh} {R:Rd} {d:DV} {vs:Array Value} (h:qz G R [d] vs.toList):∃ v,vs= #[v]/\qt G R d v:=by
 simp only[qz] at h
 grind
theorem qz.two {G:Gh} {R:Rd} {d d':DV} {vs:Array Value} (h:qz G R [d,d'] vs.toList):∃ v v',vs= #[v,v']/\qt G R d v/\qt G R d' v':=by
 simp only[qz] at h
 grind
theorem ZZ.tab {E:Ext} (M:ZZ G look w) (hE:ExtOk P E):Lib.TabIs P w "internal/strconv.uint64pow10" .u64 Lib.pow10Tab:=by
 obtain⟨g,T,fr,h1,h2⟩:=hE.tab
 obtain⟨_,h3⟩:=M.laid _ _ h2
 simp only[Lib.TabIs,World.var?,h1,zY,h3]
end
def blt:Nb->Nb->Bool
  | _,[]=>false
  | [],_::_=>true
  | a::l,b::m=>bif Nat.blt a.toNat b.toNat then true else bif Nat.blt b.toNat a.toNat then false else blt l m
def beqB:Nb->Nb->Bool
  | [],[]=>true
  | a::l,b::m=>Nat.beq a.toNat b.toNat&&beqB l m
  | _,_=>false
def eqO:Option Nb->Option Nb->Bool
  | none,none=>true
  | some a,some b=>beqB a b
  | _,_=>false
noncomputable def orO (A B:Orc):Orc:=fun f lo ds ms=>match A f lo ds ms with
  | some r=>some r
  | none=>B f lo ds ms
theorem orO_ok {P:Program} {A B:Orc} (hA:kX P A) (hB:kX P B):kX P (orO A B):=by
  intro f lo ds l val ms h
  unfold orO at h
  split at h
  · rename_i r hr;cases h;exact hA _ _ _ _ _ _ hr
  · exact hB _ _ _ _ _ _ h
class Fc where
  r:Option Nat
instance (priority:=low) fc0:Fc:=⟨none⟩
def fcR (r:Option Nat):Fence:={ Fence.wide with round:=r }
def fcF [Fc]:Fence:=fcR Fc.r
def mkD (r:Nat):Deferred:={ target:=.collected r,args:= #[] }
def Mks (a:Act) (w:World) (G':Gh) (a':Act) (w':World):Prop:=
  ∃ rs:List Nat,a'.defers=rs.map mkD++a.defers/\rs.Nodup/\∀ r∈rs,w.heap.size<=r/\G'.γ r=none/\w'.heap[r]? =some (.deferred (some []))
theorem Mks.of {a a':Act} {w w':World} {G':Gh} (h:a'.defers=a.defers):Mks a w G' a' w':=⟨[],by simpa using h,by simp,by simp⟩
theorem Mks.trans {a a1 a2:Act} {w w1 w2:World} {G G1 G2:Gh} (h:Mks a w G1 a1 w1) (k:Mks a1 w1 G2 a2 w2) (L0:Later G w G1 w1) (L:Later G1 w1 G2 w2):Mks a w G2 a2 w2:=by
  obtain⟨r1,e1,n1,k1⟩:=h
  obtain⟨r2,e2,n2,k2⟩:=k
  refine⟨r2++r1,by rw[e2,e1];simp,?_,fun r hr=>?_⟩
  · refine List.nodup_append.2 ⟨n2,n1,fun x hx y hy e=>?_⟩
    subst e
    grind
  · rcases zH.1 hr with hr|hr
    · obtain⟨h1,h2,h3⟩:=k2 r hr
      exact⟨qd L0.size h1,h2,h3⟩
    · obtain⟨h1,h2,h3⟩:=k1 r hr
      have hlt:=(zS.1 h3).1
      obtain⟨c1,c2⟩:=L.cold r hlt h2
      grind
theorem Mks.step {a a1 a2:Act} {w w1 w2:World} {G G1 G2:Gh} {K:Nat} {l l1 l2:Nat->Option MO} (h:a1.defers=a.defers) (S1:Since K l G w l1 G1 w1) (k:Mks a1 w1 G2 a2 w2) (S2:Since K l1 G1 w1 l2 G2 w2):Mks a w G2 a2 w2:=
  (Mks.of h).trans k S1.later S2.later
theorem Mks.next {a a1 a2:Act} {w w1 w2:World} {G G1 G2:Gh} {K:Nat} {l l1 l2:Nat->Option MO} (S1:Since K l G w l1 G1 w1) (h:Mks a w G1 a1 w1) (S2:Since K l1 G1 w1 l2 G2 w2) (k:Mks a1 w1 G2 a2 w2):Mks a w G2 a2 w2:=
  h.trans k S1.later S2.later
theorem wpR_of {P:Program} {o:Oper} {a:Act} {w:World} {next:Act->World->Prop} {Q:Exit->Act->World->Prop} (h:o.wp P a w next Q) (hd:∀ c,o.op≠.defer c) (r:Option Nat):o.wpIn (fcR r) 0 P a w next Q:=by
  refine⟨fun _ _=>trivial,?_⟩
  show o.uponIn (fcR r) 0 P a next Q ((o.semAt r a.eval).run P w)
  rw[Oper.semAt_eq _ _ _ hd]
  unfold Oper.wp at h
  generalize (execOp a.eval o).run P w=x at h ⊢
  cases x with
  | ok x w'=>
    cases x with
    | enter f args=>exact⟨(fun hh=>by simp[fcR,Fence.wide] at hh),callsIn_wide.2 h⟩
    | row row args=>exact⟨(fun hh=>by simp[fcR,Fence.wide] at hh),fun c cs _=>let ⟨v,w',r,s⟩:=h c cs;⟨v,w',r,stepsIn_wide.2 s⟩⟩
    | round l f tmps assign body=>exact absurd h aN
    | _=>first|exact h|exact absurd h aN
  | halt x w'=>cases x<;>first|exact h|exact absurd h aN
theorem notDefer {P:Program} {o:Oper} {ρ:Operand->Value} {w w':World} {x:Next} (h:(execOp ρ o).run P w=.ok x w') (hx:∀ d,x≠.defer d):∀ c,o.op≠.defer c:=by
  intro c hc
  unfold execOp at h
  rw[hc] at h
  simp only[qp] at h
  cases hr:(resolve ρ c o.type).run P w with
  | ok d w1=>rw[hr] at h;simp only[qo,qq,Result.ok.injEq] at h;exact hx _ h.1.symm
  | halt e w1=>rw[hr] at h;cases h
def T [Fc] (P:Program) (n nb:Nat) (c:Code) (s:St) (Q:Exit->St->Prop):Prop:=
  ∀ (G:Gh) (a:Act) (w:World) (R:Exit->Act->World->Prop),Inv G s.vw a w->a.tmps.size=n->
    (∀ e s' G' a' w',Q e s'->Inv G' s'.vw a' w'->Since nb (qr s.ms) G w (qr s'.ms) G' w'->a'.tmps.size=n->Mks a w G' a' w'->R e a' w')->c.wpIn fcF 0 P R a w
def Wk (nb:Nat) (s s':St):Prop:=
  ∀ {G:Gh} {a:Act} {w:World},Inv G s.vw a w->∃ G',Inv G' s'.vw a w/\Since nb (qr s.ms) G w (qr s'.ms) G' w
section
variable {P:Program} {n nb:Nat} {c x y:Code} {s:St} {Q:Exit->St->Prop}
theorem T.mono [Fc] {Q':Exit->St->Prop} (h:T P n nb c s Q) (k:∀ e s',Q e s'->Q' e s'):T P n nb c s Q':=by
  intro G a w R I hn hK
  exact h _ _ _ _ I hn fun e s' G' a' w' hq=>hK e s' G' a' w' (k e s' hq)
theorem T.weak [Fc] {s':St} (hw:Wk nb s s') (h:T P n nb c s' Q):T P n nb c s Q:=by
  intro G a w R I hn hK
  obtain⟨G1,I1,Sn1⟩:=hw I
  exact h _ _ _ _ I1 hn fun e s2 G2 a2 w2 hq I2 Sn2 hn2 hd2=>hK e s2 G2 a2 w2 hq I2 (Sn1.trans Sn2) hn2 (Mks.step Z Sn1 hd2 Sn2)
theorem T.seq [Fc] {M:Exit->St->Prop} (hx:T P n nb x s M) (hy:∀ s',M .normal s'->T P n nb y s' Q) (ho:∀ e s',e≠.normal->M e s'->Q e s'):T P n nb (.seq x y) s Q:=by
  intro G a w R I hn hK
  refine wpIn_seq (hx _ _ _ _ I hn ?_)
  intro e s' G1 a1 w1 hm I1 Sn1 hn1 hd1
  cases e with
  | normal=>
    refine hy s' hm _ _ _ _ I1 hn1 ?_
    intro e2 s2 G2 a2 w2 hq I2 Sn2 hn2 hd2
    exact hK e2 s2 G2 a2 w2 hq I2 (Sn1.trans Sn2) hn2 (Mks.next Sn1 hd1 Sn2 hd2)
  | _=>exact hK _ s' G1 a1 w1 (ho _ _ ao hm) I1 Sn1 hn1 hd1
theorem T.cond [Fc] {o:Operand} {b:Bool} (hc:evS s o=.pv (.lit (.bool b))) (hx:b=true->T P n nb x s Q) (hy:b=false->T P n nb y s Q):T P n nb (.cond o x y) s Q:=by
  intro G a w R I hn hK
  have hv:=kG I o
  rw[hc] at hv
  cases b with
  | true=>exact wpIn_cond_true (qx hv).1 (hx Z _ _ _ _ I hn hK)
  | false=>exact wpIn_cond_false (qx hv).1 (hy Z _ _ _ _ I hn hK)
theorem T.block [Fc] {id:Nat} (h:T P n nb c s fun e s'=>match e with
    | .exit i=>if i=id then Q .normal s' else Q (.exit i) s'
    | e=>Q e s'):T P n nb (.block id c) s Q:=by
  intro G a w R I hn hK
  refine wpIn_block (h _ _ _ _ I hn ?_)
  grind [Exit.inBlock]
theorem T.loop [Fc] (J:Nat->St->Prop) (hb:∀ k s,J k s->T P n nb c s fun e s'=>match e with
    | .normal=>∃ k',k' < k/\J k' s'
    | e=>Q e s') {k:Nat} (h0:J k s):T P n nb (.loop c) s Q:=by
  have key:∀ m k s,k<m->J k s->∀ {G:Gh} {a:Act} {w:World} {R:Exit->Act->World->Prop},Inv G s.vw a w->a.tmps.size=n->
      (∀ e s' G' a' w',Q e s'->Inv G' s'.vw a' w'->Since nb (qr s.ms) G w (qr s'.ms) G' w'->a'.tmps.size=n->Mks a w G' a' w'->R e a' w')->Code.roundsIn fcF 0 P c R m a w:=by
    intro m
    induction m with
    | zero=>intro k s hk;omega
    | succ m ih=>
      intro k s hk hJ G a w R I hn hK
      rw[roundsIn_succ]
      refine hb k s hJ _ _ _ _ I hn ?_
      intro e s' G1 a1 w1 hq I1 Sn1 hn1 hd1
      cases e with
      | normal=>
        obtain⟨k',hlt,hJ'⟩:=hq
        exact ih k' s' aa hJ' I1 hn1 fun e2 s2 G2 a2 w2 hq2 I2 Sn2 hn2 hd2=>hK e2 s2 G2 a2 w2 hq2 I2 (Sn1.trans Sn2) hn2 (Mks.next Sn1 hd1 Sn2 hd2)
      | _=>exact hK _ s' G1 a1 w1 hq I1 Sn1 hn1 hd1
  intro G a w R I hn hK
  exact wpIn_loop_rounds (k+1) (key (k+1) k s aa h0 I hn hK)
theorem T.skip [Fc] (h:Q .normal s):T P n nb .skip s Q:=by intro G a w R I hn hK;exact wpIn_skip (hK _ s G a w h I (Since.refl _ _ _ _) hn (Mks.of Z))
theorem T.exit [Fc] {id:Nat} (h:Q (.exit id) s):T P n nb (.exit id) s Q:=by intro G a w R I hn hK;exact wpIn_exit (hK _ s G a w h I (Since.refl _ _ _ _) hn (Mks.of Z))
theorem T.ret [Fc] (h:Q .ret s):T P n nb .ret s Q:=by intro G a w R I hn hK;exact wpIn_ret (hK _ s G a w h I (Since.refl _ _ _ _) hn (Mks.of Z))
def TO (P:Program) (n nb:Nat) (ops:Array Oper) (l:List Nat) (s:St) (Q:St->Prop):Prop:=
  ∀ (G:Gh) (a:Act) (w:World) (R:Exit->Act->World->Prop),Inv G s.vw a w->a.tmps.size=n->
    (∀ s' G' a' w',Q s'->Inv G' s'.vw a' w'->Since nb (qr s.ms) G w (qr s'.ms) G' w'->a'.tmps.size=n->a'.defers=a.defers->R .normal a' w')->wpOps P ops R l a w
theorem TO.nil {ops:Array Oper} {Q:St->Prop} (h:Q s):TO P n nb ops [] s Q:=by
  intro G a w R I hn hK
  exact hK s G a w h I (Since.refl _ _ _ _) hn rfl
theorem T.region {id:Nat} {ops:Array Oper} {kp:Nat} (h:TO P n nb ops (List.range ops.size) s fun s'=>Q .normal ⟨Go.Lens.keepF kp s'.tm,s'.ms⟩):T P n nb (.region id ops false) s Q:=by
  intro G a w R I hn hK
  refine wpIn_wide.2 (wp_region (h _ _ _ _ I hn ?_))
  intro s' G1 a1 w1 hq I1 Sn1 hn1 hd1
  obtain⟨G2,I2,Sn2⟩:=I1.keepF nb kp
  exact hK _ _ _ _ _ hq I2 (Sn1.trans Sn2) hn1 (Mks.of hd1)
structure CallR (P:Program) (f:FuncId) (ds:List DV) (look:Nat->Option MO) (R:DV->Na->Prop):Prop where
  refs:∀ h∈DV.qL ds,∃ o,look h=some o
  call:∀ (G:Gh) (w:World) (vs:Array Value),ZZ G look w->qz G (G.rd w) ds vs.toList->
    CallsAs P f vs w fun r w'=>∃ val ms G',R val ms/\Stepped G w look val ms G' w' r
theorem Inv.shut {G:Gh} {σ:Vw} {a:Act} {w:World} (I:Inv G σ a w) {r:Nat} {x y:Option (List Deferred)} (hg:G.γ r=none) (hr:w.heap[r]? =some (.deferred x)) (hL:Lz.L r=none):Inv G σ a (w.putObj r (.deferred y)):=by
  have hne:∀ b,b≠r->(w.putObj r (.deferred y)).heap[b]? =w.heap[b]? :=fun b hb=>World.putObj_heap_other hb
  have hc:∀ b o v,w.cell? ⟨b,o,none⟩=some v->(w.putObj r (.deferred y)).cell? ⟨b,o,none⟩=some v:=by
    intro b o v h
    by_cases hb:b=r
    · subst hb;simp only[World.cell?,hr] at h;cases h
    · rw[World.cell?_eq_of (hne b hb)];exact h
  have hm:∀ b es,kL w b=some es->kL (w.putObj r (.deferred y)) b=some es:=by grind [kL]
  have hR:(G.rd w).Le (G.rd (w.putObj r (.deferred y))):=by
    constructor
    · intro b o v h
      simp only[Gh.rd] at h ⊢
      grind
    · intro b es h
      simp only[Gh.rd] at h ⊢
      grind
  refine⟨fun s=>qt.mono (G:=G) hR _ _ (fun _ _=>.inl Z) (I.ts s),I.size,fun h o ho=>qW.monoR hR Z (fun b hb=>⟨hb,hne b (fun e=>by subst e;rw[hg] at hb;cases hb)⟩) o (fun _ _=>.inl rfl) (I.ms h o ho),
    fun b h hb=>by rw[World.putObj_size];exact I.fresh b h hb,I.own,I.refsT,I.refsM,fun b o v hb hv=>let ⟨e1,e2⟩:=I.r0 b o v hb hv;⟨e1,hc _ _ _ e2⟩,fun b es hb hv=>let ⟨e1,e2⟩:=I.r0m b es hb hv;⟨e1,hm _ _ e2⟩,by rw[World.putObj_size];exact I.baseLe,
    fun b o h=>let ⟨e1,e2⟩:=I.laid b o h;⟨e1,by rw[hne b (fun e=>by subst e;rw[hL] at h;cases h)];exact e2⟩⟩
theorem Since.shut {K:Nat} {l l':Nat->Option MO} {G G':Gh} {w w':World} (S:Since K l G w l' G' w') {r:Nat} {o:Obj} (hr:w.heap.size<=r):Since K l G w l' G' (w'.putObj r o):=
  ⟨⟨S.later.base,S.later.R0,S.later.R0c,S.later.R0m,S.later.os,S.later.tape,S.later.output,by rw[World.putObj_size];exact S.later.size,
    fun b hb hg=>let ⟨e1,e2⟩:=S.later.cold b hb hg;⟨by rw[World.putObj_heap_other aa];exact e1,e2⟩,S.later.drawn⟩,S.keeps,S.newb⟩
theorem leaves_marks {F:Fence} {n:Nat} {fn:Func} {tmps:Array Value} {R:Ending->World->Prop} {G':Gh} {σ:Vw} {a:Act} {K:Nat} {l:Nat->Option MO} {G:Gh} {w:World} :
    ∀ (rs:List Nat) (w':World),rs.Nodup->(∀ r∈rs,w.heap.size<=r/\G'.γ r=none/\w'.heap[r]? =some (.deferred (some []))/\Lz.L r=none)->Inv G' σ a w'->Since K l G w σ.look G' w'->
    (∀ w2,Inv G' σ a w2->Since K l G w σ.look G' w2->∃ v,(results fn tmps).run P w2=.ok v w2/\R (.returned v) w2)->LeavesInM F n P fn tmps R (rs.map mkD) .returning w'
  | [],w',_,_,I,S,h=>h w' I S
  | r::rs,w',hnd,hr,I,S,h=>by
    obtain⟨h1,h2,h3,h4⟩:=hr r ao
    obtain⟨nd1,nd2⟩:=JD.1 hnd
    refine⟨by simp,.inl ⟨r,_,rfl,run_takeDeferred h3,?_⟩⟩
    refine leaves_marks rs _ nd2 (fun r' hr'=>?_) (I.shut h2 h3 h4) (S.shut h1) h
    obtain⟨k1,k2,k3,k4⟩:=hr r' (by simp[hr'])
    exact⟨k1,k2,(World.putObj_heap_other (by rintro rfl;exact nd1 hr')).trans k3,k4⟩
theorem CallR.of {Y:Tab} [qH P Y] {F:FnI} {f:FuncId} {fn:Func} {c:Code} (hf:P.funcs[f]? =some fn) (hb:fn.body=some c) (hn:fn.ntmps=F.n) (hr:fn.results=F.res) (he:∀ args w,(callFunc f args).run P w=.ok (.enter f args) w)
    {ds:List DV} {l:Na} {R:DV->Na->Prop} {lo:Nat} (hl:ds.length<=F.n) (hrf:∀ h∈DV.qL ds,∃ o,qr l h=some o) (hnb:∀ h o,qr l h=some o->h<lo)
    (h:T P F.n lo c ⟨zipT 0 ds,l⟩ fun e s'=>(e=.normal\/e=.ret)/\∃ val ms,kY Y F lo l s'=some (val,ms)/\R val ms):CallR P f ds (qr l) R:=by
  refine⟨hrf,fun G w vs M hv=>.inl ⟨he _ _,callsIn_wide.1 (callsIn_of_wp_marks (F:=Fence.wide) (n:=0) hf hb trivial ?_)⟩⟩
  have hvl:vs.size=ds.length:=by have:=hv.length;simpa using this
  have hsz:(vs++Array.replicate (fn.ntmps-vs.size) undef).size=F.n:=by simp;omega
  have I:Inv G (St.vw ⟨zipT 0 ds,l⟩) ⟨vs++Array.replicate (fn.ntmps-vs.size) undef,[]⟩ w:=by
    refine⟨fun t=>?_,fun t ht=>?_,M.ms,M.fresh,M.own,fun t h hh=>?_,M.refsM,M.r0,M.r0m,M.baseLe,M.laid⟩
    · show qt _ _ (jJ (zipT 0 ds) t) _
      by_cases ht:t<ds.length
      · rcases getT_zipT G (G.rd w) ds vs.toList 0 t hv with h|h
        · omega
        · have:(vs++Array.replicate (fn.ntmps-vs.size) undef).getD t undef=(vs.toList[t-0]?).getD undef:=by
            simp only[zC,KQ,qe]
            grind
          rw[this];exact h
      · rw[kH ds 0 t aa];simp only[qt]
    · show jJ (zipT 0 ds) t=.dead
      simp only at ht
      exact kH ds 0 t aa
    · exact hrf h (refs_zipT ds 0 t h hh)
  refine h _ _ _ _ I hsz ?_
  rintro e s' G' a' w' ⟨he2,val,ms,hcl,hR⟩ I' Sn' _ ⟨rs,hd1,hd2,hd3⟩
  have fin:LeavesInM Fence.wide 0 P fn a'.tmps (fun e w'=>∃ r,e=.returned r/\∃ val ms G',R val ms/\Stepped G w (qr l) val ms G' w' r) a'.defers .returning w':=by
    rw[hd1]
    simp only[zR]
    refine leaves_marks rs w' hd2 (fun r hr=>?_) I' Sn' ?_
    · obtain⟨k1,k2,k3⟩:=hd3 r hr
      refine⟨k1,k2,k3,?_⟩
      cases hq:Lz.L r with
      | none=>rfl
      | some o=>have:=(zS.1 (M.laid r o hq).2).1;omega
    · intro w2 I2 S2
      obtain⟨v,k1,G'',k2⟩:=closeX_sound (P:=P) (fn:=fn) hr M I2 S2 hnb hcl
      grind
  rcases he2 with rfl|rfl
  · exact fin
  · exact fin
end
def R64 (n:Int):Prop:= -9223372036854775808<=n/\n<9223372036854775808
def evD:DV->DV
 | .gd true d=>d
 | d=>d
noncomputable def evU (ts:List Tmp) (s:St) (x:Operand):DV:=evD (evT ts s x)
theorem RelDV_evD {G:Gh} {R:Rd} {d:DV} {v:Value} (h:qt G R d v):qt G R (evD d) v:=by
 unfold evD
 grind [qt]
theorem refs_evD (d:DV):(evD d).refs=d.refs:=by
 unfold evD
 split
 ·simp only[DV.refs]
 rfl
def Frz (l:Na) (val0:DV) (m0:Na) (val:DV) (m:Na):Prop:=
 ∀ (G:Gh) (w:World) (G1:Gh) (w1:World) (r:Value),ZZ G (qr l) w->Stepped G w (qr l) val0 m0 G1 w1 r->∃ G2,Stepped G w (qr l) val m G2 w1 r
theorem Frz.refl (l:Na) (val:DV) (m:Na):Frz l val m val m:=fun _ _ G1 _ _ _ S=>⟨G1,S⟩
def jS (P:Program) (s:St) (o:Oper) (val:DV) (m:Na) (rd:List Nat):Prop:=
 ∀ (σ:St) (G:Gh) (a:Act) (w:World) (next:Act->World->Prop) (Q:Exit->Act->World->Prop),(∀ t∈tmpsOf o.op.operands.toList,jJ σ.tm t=jJ s.tm t)->(∀ h,(h∈rd\/h∈m.map (·.1))->qr σ.ms h=qr s.ms h)->
  Inv G σ.vw a w->(∀ r w' G',Stepped G w (qr σ.ms) val m G' w' r->next (a.put o.dst r) w')->∀ r,o.wpIn (fcR r) 0 P a w next Q
def EBody (P:Program) (Y:Tab) (nb:Nat) (s:St) (o:Oper) (val:DV) (m:Na) (rd:List Nat):Prop:=
 ∃ (O:Orc) (l:Na) (val0:DV) (m0:Na) (lo nm:Nat),kX P O/\
  ledM s.ms (o.op.operands.toList.flatMap fun x=>(evU (tmpsOf o.op.operands.toList) s x).refs) (lvl o.op (evU (tmpsOf o.op.operands.toList) s))=l/\
  rdM s.ms (o.op.operands.toList.flatMap fun x=>(evU (tmpsOf o.op.operands.toList) s x).refs) l (lvl o.op (evU (tmpsOf o.op.operands.toList) s))=rd/\
  (q7 l&&(o.op.operands.toList.flatMap fun x=>(evU (tmpsOf o.op.operands.toList) s x).refs).all (jH l))=true/\
  effX O Y lo nm o (evU (tmpsOf o.op.operands.toList) s) l=some (val0,m0)/\Frz l val0 m0 val m/\
  m.all (fun p=>jH l p.1||!jH s.ms p.1)=true
def Body (P:Program) (Y:Tab) (nb:Nat) (s:St) (o:Oper) (val:DV) (m:Na) (rd:List Nat):Prop:=EBody P Y nb s o val m rd\/jS P s o val m rd
noncomputable def refsIn (s:St) (o:Oper) (val:DV):Bool:=val.refs.all fun h=>(tmpsOf o.op.operands.toList).any fun t=>(jJ s.tm t).refs.any (Nat.beq h)
def EfR (P:Program) (Y:Tab) (nb:Nat) (ops:Array Oper) (s:St) (o:Oper) (e:Ef):Prop:=
 ∃ c val m rd,gcond ops s o.guard=some c/\(c=true->Body P Y nb s o val m rd)/\
  ((c=true/\e=⟨o.dst,val,m,rd⟩)\/(c=false/\e=⟨o.dst,.gd false (lit (.bool false)),[],[]⟩)\/(m=[]/\refsIn s o val=true/\e=⟨o.dst,.gd c val,[],rd⟩))
theorem EfR.dst {P:Program} {Y:Tab} {nb:Nat} {ops:Array Oper} {s:St} {o:Oper} {e:Ef} (h:EfR P Y nb ops s o e):e.dst=o.dst:=by obtain⟨c,val,m,rd,_,_,⟨_,rfl⟩|⟨_,rfl⟩|⟨_,_,rfl⟩⟩:=h<;>rfl
def efsR (P:Program) (Y:Tab) (nb:Nat) (ops:Array Oper):List Oper->St->List Ef->Prop
 | [],_,es=>es=[]
 | o::os,s,es=>∃ e es',es=e::es'/\EfR P Y nb ops s o e/\efsR P Y nb ops os (stp s e) es'
section
variable {P:Program} {Y:Tab} [qH P Y] {nb n:Nat} {ops:Array Oper}
theorem effX_nd {O:Orc} {lo nm:Nat} {o:Oper} {ev:Operand->DV} {l:Na} {r:DV×Na} (h:effX O Y lo nm o ev l=some r):∀ c,o.op≠.defer c:=by
 intro c hc
 obtain⟨dst,op,ty,pos,af,gd⟩:=o
 simp only at hc
 subst hc
 have e:effV Y nm dst (.defer c) ev (qr l)=none:=rfl
 simp only[effX,genE,e] at h
 cases h
theorem EfR.sound {π σ:St} {o:Oper} {e:Ef} (H:EfR P Y nb ops π o e) (hdo:dstOk n o.dst=true) (slot:∀ t∈useS ops o,jJ σ.tm t=jJ π.tm t)
  (name:∀ h,(h∈e.rd\/h∈e.ms.map (·.1))->qr σ.ms h=qr π.ms h) {G:Gh} {a:Act} {w:World} (I:Inv G σ.vw a w) (hn:a.tmps.size=n) {Q:Exit->Act->World->Prop} {next:Act->World->Prop}
  (go:∀ {G':Gh} {r:Value} {w':World},Inv G' (σ.put o.dst e.val e.ms).vw (a.put o.dst r) w'->Since nb (qr σ.ms) G w (qr (σ.put o.dst e.val e.ms).ms) G' w'->next (a.put o.dst r) w') :
  if Region.wanted o (yielded ops a.tmps) then ∀ r,o.wpIn (fcR r) 0 P a w next Q else next (a.put o.dst undef) w:=by
 obtain⟨c,val,m,rd,hg,hb,alt⟩:=H
 have gc:gcond ops σ o.guard=gcond ops π o.guard:=by
  unfold gcond
  cases hg:o.guard with
  | none=>rfl
  | some gw=>
   obtain⟨g,want⟩:=gw
   simp only
   cases hb:(ops[g]?).bind (·.dst) with
   | none=>rfl
   | some t=>simp only;rw[slot t (by simp[useS,hg,hb])]
 have hd':=dstOk_lt hdo hn
 have hw:=gcond_sound I (gc.trans hg)
 cases c with
 | false=>
  rw[hw,WJ ao]
  rcases alt with ⟨h,_⟩|⟨_,rfl⟩|⟨_,hr,rfl⟩
  ·cases h
  ·obtain⟨I',Sn⟩:=I.gone (K:=nb) o.dst hd' false rfl (lit (.bool false)) aG
   exact go I' Sn
  obtain⟨I',Sn⟩:=I.gone (K:=nb) o.dst hd' false rfl val (fun h hh=>by
   obtain⟨t,ht,h2⟩:=X9.1 (zr.1 hr h hh)
   obtain⟨k,hk,h3⟩:=X9.1 h2
   have:=zD h3
   subst this
   rw[<-slot t (by simp[useS,ht])] at hk
   exact I.refsT t h hk)
  exact go I' Sn
 | true=>
  rw[WK hw]
  have hrd:e.rd=rd/\e.ms=m/\(e.val=val\/e.val=.gd true val):=by grind
  obtain⟨e1,e2,e3⟩:=hrd
  rw[e1,e2] at name
  have fin:∀ {G2:Gh} {r:Value} {w':World},Stepped G w (qr σ.ms) val m G2 w' r->next (a.put o.dst r) w':=by
   intro G2 r w' S2
   rcases e3 with e3|e3
   ·obtain⟨I',Sn⟩:=I.eff (K:=nb) S2 o.dst hd'
    rw[<-e2,<-e3] at I' Sn
    exact go I' Sn
   obtain⟨I',Sn⟩:=I.eff (K:=nb) S2.gd o.dst hd'
   rw[<-e2,<-e3] at I' Sn
   exact go I' Sn
  rcases hb rfl with hb|hb
  rotate_left
  ·exact hb σ G a w next Q (fun t ht=>slot t (by simp[useS,ht])) name I fun r w' G' S=>fin S
  obtain⟨O,l,val0,m0,lo,nm,hO,hl,hrd,hq,hx,hfz,hq2⟩:=hb
  generalize hrs:(o.op.operands.toList.flatMap fun x=>(evU (tmpsOf o.op.operands.toList) π x).refs)=rs at*
  generalize hA:lvl o.op (evU (tmpsOf o.op.operands.toList) π)=A at*
  simp only[zj] at hq
  have hsub:∀ h o',qr l h=some o'->qr σ.ms h=some o'\/(o'=.gone/\∃ o'',qr σ.ms h=some o''):=by
   intro h o' hh
   have slotRef:h∈rs->∃ o'',qr σ.ms h=some o'':=by
    intro hh'
    rw[<-hrs] at hh'
    obtain⟨x,hx,hxr⟩:=Jf.1 hh'
    simp only[evU,refs_evD] at hxr
    cases x with
    | tmp t=>
     simp only[evT] at hxr
     cases hc:(tmpsOf o.op.operands.toList).any (Nat.beq t) with
     | false=>rw[hc] at hxr;simp[DV.refs] at hxr
     | true=>
      rw[hc] at hxr
      obtain⟨u,hu,hb⟩:=X9.1 hc
      have:=zD hb
      subst this
      simp only[Wy] at hxr
      rw[<-slot t (by simp[useS,hu])] at hxr
      exact I.refsT t _ hxr
    | const v=>simp only[evT,evS,ZR] at hxr;cases hxr
    | global g=>simp[evT,evS,DV.refs] at hxr
    | func f=>simp[evT,evS,DV.refs] at hxr
   match A,hl,hrd with
   | 0,hl,hrd=>
    have hm:=jl hh
    rw[<-hl] at hm
    obtain⟨h',hh',e⟩:=zE.1 hm
    grind
   | 1,hl,hrd=>
    rw[<-hl] at hh
    simp only[ledM,nearM] at hh
    have near:∀ {k o2},(k,o2)∈sel π.ms rs->qr σ.ms k=some o2:=by
     intro k o2 hk
     rw[name k (.inl (by rw[<-hrd];exact zE.2 ⟨_,hk,rfl⟩))]
     exact sel_mem hk
    rw[lookM_append] at hh
    cases hs:jw (sel π.ms rs) h with
    | some o2=>
     rw[hs] at hh
     cases hh
     exact .inl (near (ke hs))
    | none=>
     rw[hs] at hh
     have hm:=jl hh
     obtain⟨h',hh',e⟩:=zE.1 hm
     cases e
     obtain⟨⟨k,o2⟩,hp,hr2⟩:=Jf.1 hh'
     exact .inr ⟨rfl,I.refsM k o2 h (near hp) hr2⟩
   | A+2,hl,hrd=>
    left
    rw[name h (.inl (by rw[<-hrd];exact zE.2 ⟨_,jl hh,rfl⟩))]
    rw[<-hl] at hh;exact sel_sub hh
  have hcl:∀ k o' h,qr l k=some o'->h∈o'.refs->∃ o2,qr l h=some o2:=fun k o' h hk hh=>ko hq.1 k o' hk h hh
  have hnew:∀ h,h∈m.map (·.1)->qr l h=none->qr σ.ms h=none:=by
   intro h hm hh
   rw[name h (.inr hm)]
   exact allHas hq2 h hm hh
  have M:=I.mem
  have Mp:=M.part (l:=qr l) hsub hcl
  have C:Ctx (G.part w (qr l)) w a.eval (evU (tmpsOf o.op.operands.toList) π) (qr l) (qr l):=by
   refine⟨⟨fun x=>?_,Mp.ms,Mp.readable.1,Mp.readable.2⟩,fun h o ho=>ho,?_,Mp.fresh⟩
   ·have full:∀ d,qt G (G.rd w) d (a.eval x)->qt (G.part w (qr l)) ((G.part w (qr l)).rd w) d (a.eval x):=fun d hd=>qt.mono (G:=G) (part_le M) _ _ (fun _ _=>.inl Z) hd
    refine RelDV_evD ?_
    cases x with
    | tmp t=>
     simp only[evT]
     cases hc:(tmpsOf o.op.operands.toList).any (Nat.beq t) with
     | false=>simp only[Ww,qt]
     | true=>
      obtain⟨u,hu,hb⟩:=X9.1 hc
      have:=zD hb
      subst this
      simp only[Wy]
      rw[<-slot t (by simp[useS,hu])]
      exact full _ (I.ts t)
    | const v=>exact full _ (kG I (.const v))
    | global g=>exact full _ (kG I (.global g))
    | func f=>exact full _ (kG I (.func f))
   rintro k (⟨x,hk⟩|⟨k',o',ho',hk⟩)
   ·have hxr:k∈rs:=by
     cases x with
     | tmp t=>
      have hk2:=hk
      simp only[evU,refs_evD,evT] at hk2
      cases hc:(tmpsOf o.op.operands.toList).any (Nat.beq t) with
      | false=>rw[hc] at hk2;simp[DV.refs] at hk2
      | true=>
       obtain⟨u,hu,hb⟩:=X9.1 hc
       have:=zD hb
       subst this
       rw[<-hrs]
       exact Jf.2 ⟨.tmp t,mem_tmpsOf hu,hk⟩
     | const v=>simp only[evU,refs_evD,evT,evS,ZR] at hk;cases hk
     | global g=>simp[evU,refs_evD,evT,evS,DV.refs] at hk
     | func f=>simp[evU,refs_evD,evT,evS,DV.refs] at hk
    exact kj.1 (zr.1 hq.2 k hxr)
   exact hcl k' o' k ho' hk
  refine wpR_of (effX_sound (P:=P) hO C Mp hx ?_) (effX_nd hx)
  intro r w' G0 S0
  obtain⟨G1,S1⟩:=hfz _ _ _ _ _ Mp S0
  obtain⟨G2,S2⟩:=S1.frame M hsub hcl hnew
  exact fin S2
theorem efsR_spec:∀ {os:List Oper} {s:St} {es:List Ef},efsR P Y nb ops os s es->
  es.length=os.length/\∀ i o,os[i]? =some o->∃ e,es[i]? =some e/\EfR P Y nb ops (stK s es (fun _=>true) i) o e
 | [],s,es,h=>by
  simp only[efsR] at h
  grind
 | o::os,s,es,h=>by
  obtain⟨e,es',rfl,he,hes⟩:=h
  obtain⟨h1,h2⟩:=efsR_spec hes
  refine⟨by simp[h1],fun i o' ho=>?_⟩
  cases i with
  | zero=>
   simp only[QQ,zh] at ho
   subst ho
   exact⟨e,rfl,he⟩
  | succ i=>
   grind [stK_cons]
theorem drawnR_step {s:St} {es:List Ef} (hes:efsR P Y nb ops ops.toList s es) (hds:ops.toList.all (fun o=>dstOk n o.dst)=true) (hsl:slotsOk ops=true) (hef:Zf ops 0 es=true)
  {S:Nat->Bool} (D:Down ops S) {i:Nat} {o:Oper} (ho:ops[i]? =some o) (hi:S i=false) (hr:∀ e∈o.after.toList,Region.binds .any e=true->S e.on=true)
  {G:Gh} {a:Act} {w:World} (I:Inv G (stK s es S ops.size).vw a w) (hn:a.tmps.size=n) {Q:Exit->Act->World->Prop} {next:Act->World->Prop}
  (hk:∀ G' a' w',Inv G' (stK s es (fun k=>S k||Nat.beq k i) ops.size).vw a' w'->Since nb (qr (stK s es S ops.size).ms) G w (qr (stK s es (fun k=>S k||Nat.beq k i) ops.size).ms) G' w'->
   a'.tmps.size=n->a'.defers=a.defers->next a' w') (r:Option Nat):wpOpIn (fcR r) 0 P ops Q i next a w:=by
 obtain⟨hlen,hsp⟩:=efsR_spec hes
 have hin:i<ops.size:=by grind
 have ho':ops.toList[i]? =some o:=by simpa using ho
 obtain⟨e,he,hef1⟩:=hsp i o ho'
 have hdst:=hef1.dst
 have opOf:∀ {j:Nat} {e':Ef},es[j]? =some e'->∃ o':Oper,ops.toList[j]? =some o'/\e'.dst=o'.dst:=by
  intro j e' hj
  have hjl:j<ops.toList.length:=by grind
  obtain⟨e2,h1,h2⟩:=hsp j ops.toList[j] (zm hjl)
  rw[hj] at h1
  cases h1
  exact⟨_,zm hjl,h2.dst⟩
 have D':Down ops (fun k=>S k||Nat.beq k i):=by
  intro j o2 hj ho2 e2 he2 hb2
  simp only[Jr] at hj ⊢
  rcases hj with hj|hj
  ·exact .inl (D j o2 hj ho2 e2 he2 hb2)
  have:=zD hj
  subst this
  grind
 obtain⟨sp1,_⟩:=slotPairs_spec hsl
 have before_in:∀ {j},j<i->jd ops 8 i j=true->S j=true:=by
  intro j hji h
  have:=ordP_down D' h (by show (S i||Nat.beq i i)=true;rw[KE];simp)
  simp only[Jr] at this
  rcases this with h|h
  ·exact h
  have:=zD h;omega
 have behind_out:∀ {j},i<j->jd ops 8 j i=true->S j=false:=by
  intro j hij h
  cases hs:S j with
  | false=>rfl
  | true=>have:=ordP_down D h hs;rw[hi] at this;cases this
 have slot:∀ t,t∈useS ops o->jJ (stK s es S ops.size).tm t=jJ (stK s es (fun _=>true) i).tm t:=by
  intro t ht
  refine stK_slot (KH hin) hi (fun j e' hj hej hd=>?_) (fun j e' hj hej hd=>?_)
  ·grind [clashS_of]
  obtain⟨o',h1,h2⟩:=opOf hej
  have:=sp1 i j o o' hj ho' h1 (by rw[clashS_of (h2▸hd) ht,Ko])
  grind
 have name:∀ h,(h∈e.rd\/h∈e.ms.map (·.1))->qr (stK s es S ops.size).ms h=qr (stK s es (fun _=>true) i).ms h:=by
  intro h hh
  refine stK_name (KH hin) hi (fun j e' hj hej hd=>?_) (fun j e' hj hej hd=>?_)
  ·have:=efPairs_spec hef j i e' e hj hej he (by rw[clashN_of hd hh];rfl)
   exact before_in hj aO
  have:=efPairs_spec hef i j e e' hj he hej (by rw[clashN_of hd hh,Ko])
  exact behind_out hj aO
 have more:=stK_more (s:=s) (S:=S) hin he hi (fun j e' hj hej hc=>by
  rcases hc with ⟨h1,h2⟩|⟨h,h1,h2⟩
  ·cases hd:e.dst with
   | none=>exact absurd hd h2
   | some t=>
    obtain⟨o',k1,k2⟩:=opOf hej
    have hot:o.dst=some t:=hdst▸hd
    have hot':o'.dst=some t:=by rw[<-k2,h1,hd]
    have:=sp1 i j o o' hj ho' k1 (by rw[clashS_of hot (by simp[useS,hot'])];rfl)
    exact behind_out hj aO
  have:=efPairs_spec hef i j e e' hj he hej (by rw[clashN_of h1 (.inr h2)];rfl)
  exact behind_out hj aO)
 have moreL:qr (stK s es (fun k=>S k||Nat.beq k i) ops.size).ms=upd e.ms (qr (stK s es S ops.size).ms):=WD Vw.look more
 have hdo:dstOk n o.dst=true:=zr.1 hds o (Xe ho')
 have pd:∀ v,(a.put o.dst v).defers=a.defers:=fun v=>by cases hd:o.dst<;>rfl
 have key:=EfR.sound (P:=P) hef1 hdo slot name I hn (Q:=Q) (next:=next) ?_
 ·unfold wpOpIn
  rw[ho]
  simp only
  split
  ·rename_i hw;rw[WK hw] at key;exact key r
  rename_i hw;rw[WJ hw] at key;exact⟨fun _ _=>trivial,key⟩
 intro G' r w' I' Sn
 refine hk G' _ w' ?_ ?_ aP (pd r)
 ·rw[more,hdst,<-St.put_vw];exact I'
 rw[moreL,<-St.put_look (stK s es S ops.size) o.dst e.val e.ms];exact Sn
theorem drawnR_any {s:St} {es:List Ef} (hes:efsR P Y nb ops ops.toList s es) (hds:ops.toList.all (fun o=>dstOk n o.dst)=true) (hsl:slotsOk ops=true) (hef:Zf ops 0 es=true) {Q:Exit->Act->World->Prop} (r:Option Nat) :
  ∀ (fuel:Nat) (listed:Array Bool),listed.size=ops.size->listed.toList.count false=fuel->Down ops (fun k=>listed.getD k false)->
  ∀ {G:Gh} {a:Act} {w:World},Inv G (stK s es (fun k=>listed.getD k false) ops.size).vw a w->a.tmps.size=n->
  (∀ G' a' w',Inv G' (es.foldl stp s).vw a' w'->Since nb (qr (stK s es (fun k=>listed.getD k false) ops.size).ms) G w (qr (es.foldl stp s).ms) G' w'->a'.tmps.size=n->a'.defers=a.defers->Q .normal a' w')->
  wpAnyIn (fcR r) 0 P .any ops Q fuel listed a w:=by
 obtain⟨hlen,_⟩:=efsR_spec hes
 obtain⟨_,fwd⟩:=slotPairs_spec hsl
 intro fuel
 induction fuel with
 | zero=>
  intro listed hsz hc D G a w I hn hK
  have all:∀ k,k<ops.size->listed.getD k false=true:=by
   intro k hk
   have hk':k<listed.size:=aa
   have hget:listed.getD k false=listed[k]:=by simp[zC,hk']
   rw[hget]
   cases hb:listed[k] with
   | true=>rfl
   | false=>
    have:false∈listed.toList:=by grind
    grind
  have hst:stK s es (fun k=>listed.getD k false) ops.size=es.foldl stp s:=by rw[stK_congr (S':=fun _=>true) all,<-stK_all,hlen];simp
  refine⟨?_,?_⟩
  ·unfold Region.ready
   rw[List.filter_eq_nil_iff]
   grind
  have:=hK G a w (by rw[<-hst];exact I) (by rw[<-hst];exact Since.refl _ _ _ _) hn rfl
  exact this
 | succ fuel ih=>
  intro listed hsz hc D G a w I hn hK
  refine⟨fun hr=>?_,fun i hi=>?_⟩
  ·exfalso
   have hex:∃ k,k<ops.size/\listed.getD k false=false:=by
    have:false∈listed.toList:=List.count_pos_iff.1 aa
    obtain⟨k,hk,e⟩:=Xq this
    have hk':k<listed.size:=by simpa using hk
    exact⟨k,aa,by simpa [zC,hk'] using e⟩
   have least:∀ m k,k<=m->k<ops.size->listed.getD k false=false->∃ k0,k0<ops.size/\listed.getD k0 false=false/\∀ j,j<k0->listed.getD j false=true:=by
    intro m
    induction m with
    | zero=>intro k hk h1 h2;exact⟨k,h1,h2,fun j hj=>aa⟩
    | succ m ihm=>
     grind
   obtain⟨k,hk1,hk2⟩:=hex
   obtain⟨k0,h1,h2,h3⟩:=least k k (zB _) hk1 hk2
   have hk0:k0<listed.size:=aa
   have:k0∈Region.ready .any ops listed:=by
    unfold Region.ready
    rw[JC]
    refine⟨J4.2 h1,?_⟩
    have e1:listed.getD k0 true=false:=by simpa [zC,hk0] using h2
    have e2:ops[k0]? =some ops[k0]:=Qz h1
    simp only[e1,e2,Bool.not_false,qc,zO,Kf]
    rw[<-Array.all_toList]
    refine zr.2 fun e he=>?_
    cases hb:Region.binds .any e with
    | false=>simp
    | true=>
     have:=fwd k0 ops[k0] (by simp[h1]) e he hb
     simp only[Ke,Kc]
     exact h3 e.on aa
   rw[hr] at this;cases this
  unfold Region.ready at hi
  obtain⟨hi1,hi2⟩:=JC.1 hi
  have hin:=J4.1 hi1
  have hil:i<listed.size:=aa
  simp only[zj,XP] at hi2
  obtain⟨h1,h2⟩:=hi2
  have h1':listed.getD i false=false:=by simpa [zC,hil] using h1
  have ho:ops[i]? =some ops[i]:=Qz hin
  rw[ho] at h2
  simp only[qc,zO] at h2
  rw[<-Array.all_toList] at h2
  have hr:∀ e∈ops[i].after.toList,Region.binds .any e=true->listed.getD e.on false=true:=by
   intro e he hb
   have:=zr.1 h2 e he
   rw[hb] at this
   simpa using this
  have hS:∀ k,(listed.setIfInBounds i true).getD k false=(listed.getD k false||Nat.beq k i):=by
   intro k
   simp only[zC,Qm]
   by_cases hk:i=k
   ·subst hk;simp[hil]
   have:Nat.beq k i=false:=Bool.eq_false_iff.mpr fun h=>hk (zD h).symm
   simp[hk,this]
  have hSf:(fun k=>(listed.setIfInBounds i true).getD k false)=(fun k=>listed.getD k false||Nat.beq k i):=funext hS
  refine drawnR_step (P:=P) hes hds hsl hef D ho h1' hr I hn ?_ r
  intro G' a' w' I' Sn hn' hd'
  refine ih (listed.setIfInBounds i true) (by simp[hsz]) ?_ ?_ (by rw[hSf];exact I') hn' ?_
  ·have:=count_set (l:=listed.toList) (i:=i) (by
    have:listed[i]? =some false:=by
     rw[Qz hil]
     simpa [zC,hil] using h1'
    simpa using this)
   rw[Qq];omega
  ·rw[hSf]
   intro j o2 hj ho2 e2 he2 hb2
   simp only[Jr] at hj ⊢
   rcases hj with hj|hj
   ·exact .inl (D j o2 hj ho2 e2 he2 hb2)
   have:=zD hj
   subst this
   rw[ho] at ho2;cases ho2
   exact .inl (hr e2 he2 hb2)
  intro G2 a2 w2 I2 Sn2 hn2 hd2
  rw[hSf] at Sn2
  exact hK G2 a2 w2 I2 (Sn.trans Sn2) hn2 (hd2.trans hd')
def RG (P:Program) (Y:Tab) (nb:Nat) (ops:Array Oper) (dr:Bool) (os:List Oper) (s:St) (acc:List Ef) (Q:St->Prop):Prop:=
 ∃ es,efsR P Y nb ops os s es/\(dr=true->Zf ops 0 (acc++es)=true)/\Q (es.foldl stp s)
theorem RG.nil {dr:Bool} {s:St} {acc:List Ef} {Q:St->Prop} (h:dr=true->Zf ops 0 acc=true) (hq:Q s):RG P Y nb ops dr [] s acc Q:=
 ⟨[],rfl,by simpa using h,hq⟩
theorem RG.cons {dr:Bool} {o:Oper} {os:List Oper} {s:St} {e:Ef} {acc:List Ef} {Q:St->Prop} (h:EfR P Y nb ops s o e) (k:RG P Y nb ops dr os (stp s e) (acc++[e]) Q):RG P Y nb ops dr (o::os) s acc Q:=by
 obtain⟨es,h1,h2,h3⟩:=k
 exact⟨e::es,⟨e,es,rfl,h,h1⟩,by simpa using h2,h3⟩
theorem textR (r:Option Nat):∀ {os:List Oper} {l:List Nat} {s:St} {es:List Ef},efsR P Y nb ops os s es->l.map (fun i=>ops[i]?)=os.map some->os.all (fun o=>dstOk n o.dst)=true->
  ∀ {G:Gh} {a:Act} {w:World} {Q:Exit->Act->World->Prop},Inv G s.vw a w->a.tmps.size=n->
  (∀ G' a' w',Inv G' (es.foldl stp s).vw a' w'->Since nb (qr s.ms) G w (qr (es.foldl stp s).ms) G' w'->a'.tmps.size=n->a'.defers=a.defers->Q .normal a' w')->wpOpsIn (fcR r) 0 P ops Q l a w
 | [],l,s,es,h,hl,_,G,a,w,Q,I,hn,hK=>by
  have:l=[]:=by cases l with|nil=>rfl|cons i l=>simp at hl
  subst this
  simp only[efsR] at h
  subst h
  exact hK G a w I (Since.refl _ _ _ _) hn rfl
 | o::os,l,s,es,h,hl,hda,G,a,w,Q,I,hn,hK=>by
  obtain⟨e,es',rfl,he,hes⟩:=h
  cases l with
  | nil=>simp at hl
  | cons i l=>
  simp only[zy,Jz] at hl
  obtain⟨hi,hl⟩:=hl
  simp only[Kh,zj] at hda
  have pd:∀ v,(a.put o.dst v).defers=a.defers:=fun v=>by cases hd:o.dst<;>rfl
  simp only[wpOpsIn,hi]
  have key:=EfR.sound (P:=P) (π:=s) he hda.1 (fun _ _=>rfl) (fun _ _=>rfl) I hn (Q:=Q) (next:=wpOpsIn (fcR r) 0 P ops Q l) ?_
  ·split
   ·grind
   rename_i hw;rw[WJ hw] at key;exact⟨fun _ _=>trivial,key⟩
  intro G1 r w1 I1 Sn1
  rw[<-he.dst] at I1 Sn1
  refine textR _ hes hl hda.2 (G:=G1) aQ aP ?_
  intro G2 a2 w2 I2 Sn2 hn2 hd2
  exact hK G2 a2 w2 I2 (Sn1.trans Sn2) hn2 (hd2.trans (pd r))
theorem T.rg [Fc] (hm:P.follows .mixedOrders=true) {id:Nat} {dr:Bool} {s:St} {Q:Exit->St->Prop} (hda:jh n (.region id ops dr)=true) (h:RG P Y nb ops dr ops.toList s [] (fun s'=>Q .normal s')):T P n nb (.region id ops dr) s Q:=by
 obtain⟨es,hes,hef,hq⟩:=h
 intro G a w R I hn hK
 simp only[jh,zj] at hda
 cases dr with
 | false=>
  refine wpIn_region (textR (P:=P) _ hes (l:=List.range ops.size) ?_ hda.1 I hn ?_)
  ·apply XU
   intro i
   grind
  intro G' a' w' I' Sn hn' hd'
  exact hK _ _ _ _ _ hq I' Sn hn' (Mks.of hd')
 | true=>
  have hef:=hef rfl
  simp only[zU] at hef
  have hsl:slotsOk ops=true:=by simpa using hda.2
  refine wpIn_region_any hm ?_
  have h0:∀ k,(Array.replicate ops.size false).getD k false=false:=by
   intro k
   simp only[zC,QL]
   split<;>rfl
  have hst:stK s es (fun k=>(Array.replicate ops.size false).getD k false) ops.size=s:=by
   rw[stK_congr (S':=fun _=>false) (fun k _=>h0 k)]
   have:∀ m,stK s es (fun _=>false) m=s:=by
    intro m
    induction m with
    | zero=>rfl
    | succ m ih=>simp only[stK];split<;>simp[ih]
   exact this _
  refine drawnR_any (P:=P) hes hda.1 hsl hef _ ops.size _ ao ao ?_ (G:=G) ?_ hn ?_
  ·intro j o hj;have hj':(Array.replicate ops.size false).getD j false=true:=hj;rw[h0] at hj';cases hj'
  ·rw[hst];exact I.drew _
  rw[hst]
  intro G' a' w' I' Sn hn' hd'
  exact hK _ _ _ _ _ hq I' ⟨⟨Sn.later.base,Sn.later.R0,Sn.later.R0c,Sn.later.R0m,Sn.later.os,Sn.later.tape,Sn.later.output,Sn.later.size,Sn.later.cold,fun e=>qd (Wc _) (Sn.later.drawn e)⟩,Sn.keeps,Sn.newb⟩ hn' (Mks.of hd')
end
inductive Fr where
 | seq (y:Code)
 | blk (id:Nat)
 | lp (C:St->Prop)
def PK [Fc] (P:Program) (n nb:Nat) (Q:Exit->St->Prop):List Fr->Exit->St->Prop
 | []=>Q
 | .seq y::K=>fun e s=>match e with
  | .normal=>T P n nb y s (PK P n nb Q K)
  | e=>PK P n nb Q K e s
 | .blk id::K=>fun e s=>match e with
  | .exit i=>if i=id then PK P n nb Q K .normal s else PK P n nb Q K (.exit i) s
  | e=>PK P n nb Q K e s
 | .lp C::K=>fun e s=>match e with
  | .normal=>C s
  | e=>PK P n nb Q K e s
def TK [Fc] (P:Program) (n nb:Nat) (Q:Exit->St->Prop) (c:Code) (K:List Fr) (s:St):Prop:=T P n nb c s (PK P n nb Q K)
section
variable {P:Program} {n nb:Nat} {Q:Exit->St->Prop} {K:List Fr} {c x y:Code} {s:St} {id:Nat}
theorem TK.start [Fc] (h:TK P n nb Q c [] s):T P n nb c s Q:=h
theorem TK.seq [Fc] (h:TK P n nb Q x (.seq y::K) s):TK P n nb Q (.seq x y) K s:=by
 refine T.seq (M:=PK P n nb Q (.seq y::K)) h (fun s' h=>h) (fun e s' he h=>?_)
 cases e<;>first|exact absurd Z he|exact h
theorem TK.block [Fc] (h:TK P n nb Q c (.blk id::K) s):TK P n nb Q (.block id c) K s:=by
 refine T.block (T.mono h fun e s' h=>?_)
 cases e<;>exact h
theorem TK.skip [Fc] (h:PK P n nb Q K .normal s):TK P n nb Q .skip K s:=T.skip h
theorem TK.exit [Fc] {i:Nat} (h:PK P n nb Q K (.exit i) s):TK P n nb Q (.exit i) K s:=T.exit h
theorem TK.ret [Fc] (h:PK P n nb Q K .ret s):TK P n nb Q .ret K s:=T.ret h
theorem TK.cond [Fc] {o:Operand} {b:Bool} (hc:evS s o=lit (.bool b)) (hx:b=true->TK P n nb Q x K s) (hy:b=false->TK P n nb Q y K s):TK P n nb Q (.cond o x y) K s:=T.cond hc hx hy
theorem TK.condT [Fc] {o:Operand} (hc:evS s o=lit (.bool true)) (hx:TK P n nb Q x K s):TK P n nb Q (.cond o x y) K s:=T.cond hc (fun _=>hx) (fun h=>by cases h)
theorem TK.condF [Fc] {o:Operand} (hc:evS s o=lit (.bool false)) (hy:TK P n nb Q y K s):TK P n nb Q (.cond o x y) K s:=T.cond hc (fun h=>by cases h) (fun _=>hy)
theorem PK.seq [Fc] (h:TK P n nb Q y K s):PK P n nb Q (.seq y::K) .normal s:=h
theorem PK.blk [Fc] (h:PK P n nb Q K .normal s):PK P n nb Q (.blk id::K) .normal s:=h
theorem PK.lp [Fc] {C:St->Prop} (h:C s):PK P n nb Q (.lp C::K) .normal s:=h
def cutK (id:Nat):List Fr->Option (List Fr)
 | []=>none
 | .blk i::K=>bif Nat.beq i id then some K else cutK id K
 | _::K=>cutK id K
theorem PK.exit [Fc] {i:Nat}:∀ {K K':List Fr},cutK i K=some K'->PK P n nb Q K' .normal s->PK P n nb Q K (.exit i) s
 | [],_,h,_=>by cases h
 | .seq y::K,K',h,hq=>PK.exit (K:=K) h hq
 | .lp C::K,K',h,hq=>PK.exit (K:=K) h hq
 | .blk j::K,K',h,hq=>by
  simp only[cutK] at h
  cases hb:Nat.beq j i with
  | true=>
   rw[hb] at h
   cases h
   have:=zD hb
   subst this
   show (if j=j then _ else _)
   rw[WK rfl];exact hq
  | false=>
   rw[hb] at h
   show (if i=j then _ else _)
   rw[WJ (fun e=>by subst e;rw[KE] at hb;cases hb)]
   exact PK.exit (K:=K) h hq
theorem PK.ret [Fc]:∀ {K:List Fr},Q .ret s->PK P n nb Q K .ret s
 | [],h=>h
 | .seq _::K,h=>PK.ret (K:=K) h
 | .blk _::K,h=>PK.ret (K:=K) h
 | .lp _::K,h=>PK.ret (K:=K) h
def AgT (tm:List (Nat×DV)):List (Nat×DV)->Prop
 | []=>True
 | p::l=>jJ tm p.1=p.2/\AgT tm l
def AgM (ms:Na):Na->Prop
 | []=>True
 | p::l=>qr ms p.1=some p.2/\AgM ms l
theorem AgT.get {tm:List (Nat×DV)}:∀ {l:List (Nat×DV)},AgT tm l->∀ t,jJ l t=jJ tm t\/jJ l t=.dead
 | [],_,t=>.inr (getT_nil t)
 | (k,d)::l,h,t=>by
  obtain⟨h1,h2⟩:=h
  rw[jF]
  split
  ·grind
  exact AgT.get h2 t
theorem AgM.look {ms:Na}:∀ {l:Na},AgM ms l->∀ h o,qr l h=some o->qr ms h=some o
 | [],_,h,o,e=>by cases e
 | (k,o')::l,⟨h1,h2⟩,h,o,e=>by
  rw[qy] at e
  split at e
  ·grind
  exact AgM.look h2 h o e
structure Sub (nb:Nat) (s S:St):Prop where
 tm:AgT s.tm S.tm
 ms:AgM s.ms S.ms
 shut:(q7 S.ms&&S.tm.all (fun p=>p.2.refs.all (jH S.ms))&&s.ms.all (fun p=>Nat.ble nb p.1||jH S.ms p.1))=true
theorem Sub.wk {s S:St} (h:Sub nb s S):Wk nb s S:=by
 intro G a w I
 obtain⟨h1,h2,h3⟩:=h
 simp only[zj,zr] at h3
 obtain⟨⟨k1,k2⟩,k3⟩:=h3
 refine I.keep (K:=nb) (tm:=S.tm) (ms:=S.ms) (fun t=>h1.get t) (fun k o ho=>h2.look k o ho) (fun k o hk ho=>?_) (fun t k hh=>?_) (ko k1)
 ·have:=k3 _ (jl ho)
  simp only[Jr,Wr] at this
  rcases this with e|e
  ·omega
  exact kj.1 e
 obtain⟨p,hp,hh'⟩:=getT_mem hh
 exact kj.1 (k2 p hp k hh')
theorem TK.norm [Fc] (S:St) (h:Sub nb s S) (k:TK P n nb Q c K S):TK P n nb Q c K s:=T.weak h.wk k
def LP {α:Type} (nb:Nat) (S:α->St) (I:α->Prop) (m:α->Nat) (x:α) (s:St):Prop:=∃ x',I x'/\m x' < m x/\Sub nb s (S x')
theorem LP.mk {α:Type} {S:α->St} {I:α->Prop} {m:α->Nat} {x:α} (x':α) (h1:I x') (h2:m x' < m x) (h3:Sub nb s (S x')):LP nb S I m x s:=⟨x',h1,h2,h3⟩
theorem TK.loop [Fc] {α:Type} (S:α->St) (I:α->Prop) (m:α->Nat) (x0:α) (h0:I x0) (hs:Sub nb s (S x0))
  (hb:∀ x,I x->TK P n nb Q c (.lp (LP nb S I m x)::K) (S x)):TK P n nb Q (.loop c) K s:=by
 refine T.loop (fun k s=>∃ x,I x/\m x=k/\Sub nb s (S x)) ?_ (k:=m x0) ⟨x0,h0,rfl,hs⟩
 rintro k s' ⟨x,hI,rfl,hs'⟩
 refine T.weak hs'.wk (T.mono (hb x hI) fun e s2 h=>?_)
 cases e with
 | normal=>
  obtain⟨x',h1,h2,h3⟩:=h
  grind
 | _=>exact h
theorem TK.rg [Fc] {Y:Tab} [qH P Y] (hm:P.follows .mixedOrders=true) {id:Nat} {ops:Array Oper} {dr:Bool} (hda:jh n (.region id ops dr)=true)
  (h:RG P Y nb ops dr ops.toList s [] (PK P n nb Q K .normal)):TK P n nb Q (.region id ops dr) K s:=T.rg (Y:=Y) hm hda h
end
noncomputable def ev1 (s:St) (x:Operand):DV:=evD (evS s x)
section
variable {P:Program} {Y:Tab} {nb:Nat} {s:St} {ops:Array Oper} {o:Oper}
theorem tmpsOf_mem {xs:List Operand} {t:Tmp} (h:Operand.tmp t∈xs):t∈tmpsOf xs:=by
 unfold tmpsOf
 grind
theorem qR {xs:List Operand} {x:Operand} (hx:x∈xs):evU (tmpsOf xs) s x=ev1 s x:=by
 unfold evU ev1
 congr 1
 cases x with
 | tmp t=>
  simp only[evT,evS]
  have:(tmpsOf xs).any (Nat.beq t)=true:=X9.2 ⟨t,tmpsOf_mem hx,KE t⟩
  rw[this];rfl
 | _=>rfl
noncomputable def O0:Orc:=fun _ _ _ _=>none
theorem kn (P:Program):kX P O0:=fun _ _ _ _ _ _ h=>by cases h
open Classical in
noncomputable def one (f:FuncId) (ds:List DV) (l:Na) (val:DV) (out:Na):Orc:=fun f' _ ds' l'=>if f'=f/\ds'=ds/\l'=l then some (val,out) else none
theorem one_ok {f:FuncId} {ds:List DV} {l:Na} {val:DV} {out:Na} (h:qA P f ds (qr l) val out):kX P (one f ds l val out):=by
 intro f' lo ds' l' v m e
 unfold one at e
 grind
theorem one_eq (f:FuncId) (ds:List DV) (l:Na) (val:DV) (out:Na) (lo:Nat):one f ds l val out f lo ds l=some (val,out):=by grind [one]
theorem ledM_nil (ms:Na) (k:Nat):ledM ms [] k=[]:=by
 match k with
 | 0=>rfl
 | 1=>rfl
 | k+2=>simp only[ledM];rfl
theorem rdM_nil (ms:Na) (k:Nat):rdM ms [] [] k=[]:=by
 match k with
 | 0=>rfl
 | 1=>rfl
 | k+2=>rfl
theorem B.of0 {O:Orc} {val0 val:DV} {m0 m:Na} {lo nm:Nat} (hO:kX P O) (hr:∀ x∈o.op.operands.toList,(ev1 s x).refs=[])
  (h:effX O Y lo nm o (evU (tmpsOf o.op.operands.toList) s) []=some (val0,m0)) (hz:Frz [] val0 m0 val m) (hm:m.all (fun p=>!jH s.ms p.1)=true):Body P Y nb s o val m []:=by
 have hrs:(o.op.operands.toList.flatMap fun x=>(evU (tmpsOf o.op.operands.toList) s x).refs)=[]:=by
  rw[List.flatMap_eq_nil_iff]
  grind [qR]
 refine .inl ⟨O,[],val0,m0,lo,nm,hO,?_,?_,?_,h,hz,?_⟩
 ·rw[hrs];exact ledM_nil _ _
 ·rw[hrs];exact rdM_nil _ _
 ·rw[hrs];rfl
 grind
theorem B.pure {O:Orc} {val:DV} {lo nm:Nat} (hO:kX P O) (hr:∀ x∈o.op.operands.toList,(ev1 s x).refs=[])
  (h:effX O Y lo nm o (evU (tmpsOf o.op.operands.toList) s) []=some (val,[])):Body P Y nb s o val [] []:=
 B.of0 hO hr h (Frz.refl _ _ _) rfl
section
variable {dst:Option Tmp} {ty u:TypeId} {pos:String} {af:Array Edge} {gd:Option (Nat×Bool)} {t:TypeId} {x y:Operand}
theorem B.move {p:PV} (h:ev1 s x=.pv p):Body P Y nb s ⟨dst,.move x,ty,pos,af,gd⟩ (.pv p) [] []:=by
 refine B.pure (lo:=0) (nm:=0) (kn P) ?_ ?_
 ·intro z hz
  have:z=x:=by simpa [Op.operands] using hz
  rw[this,h];rfl
 show mvE (evU (tmpsOf [x]) s x)=_
 rw[qR ao,h];rfl
theorem B.assign {p:PV} (h:ev1 s x=.pv p):Body P Y nb s ⟨dst,.assign x,ty,pos,af,gd⟩ (.pv p) [] []:=by
 refine B.pure (lo:=0) (nm:=0) (kn P) ?_ ?_
 ·intro z hz
  have:z=x:=by simpa [Op.operands] using hz
  rw[this,h];rfl
 show mvE (evU (tmpsOf [x]) s x)=_
 rw[qR ao,h];rfl
theorem B.bin {op:BinOp} {a b:PV} {val:DV} (hx:ev1 s x=.pv a) (hy:ev1 s y=.pv b) (h:binE Y op t (qr []) (Z2 y) (.pv a) (.pv b)=some (val,[])) :
  Body P Y nb s ⟨dst,.binOp op t x y u,ty,pos,af,gd⟩ val [] []:=by
 refine B.pure (lo:=0) (nm:=0) (kn P) ?_ ?_
 ·intro z hz
  have:z=x\/z=y:=by simpa [Op.operands] using hz
  rcases this with rfl|rfl
  ·rw[hx];rfl
  rw[hy];rfl
 show binF Y op t (qr []) (Z2 y) (evU (tmpsOf [x,y]) s x) (evU (tmpsOf [x,y]) s y)=_
 rw[qR ao,qR ao,hx,hy,binF_eq];exact h
theorem B.add {a b:Int} (hx:ev1 s x=lit (.int .i64 a)) (hy:ev1 s y=lit (.int .i64 b)) (h:R64 (a+b)):Body P Y nb s ⟨dst,.binOp .add t x y u,ty,pos,af,gd⟩ (lit (.int .i64 (a+b))) [] []:=by
 refine B.bin hx hy ?_
 show qE (some (in64 (a+b),lit (.int .i64 (a+b))))=_
 have:in64 (a+b)=true:=zl h
 rw[this];rfl
theorem B.sub {a b:Int} (hx:ev1 s x=lit (.int .i64 a)) (hy:ev1 s y=lit (.int .i64 b)) (h:R64 (a-b)):Body P Y nb s ⟨dst,.binOp .sub t x y u,ty,pos,af,gd⟩ (lit (.int .i64 (a-b))) [] []:=by
 refine B.bin hx hy ?_
 show qE (some (in64 (a-b),lit (.int .i64 (a-b))))=_
 have:in64 (a-b)=true:=zl h
 rw[this];rfl
theorem B.mul {a b:Int} (hx:ev1 s x=lit (.int .i64 a)) (hy:ev1 s y=lit (.int .i64 b)) (h:R64 (a*b)):Body P Y nb s ⟨dst,.binOp .mul t x y u,ty,pos,af,gd⟩ (lit (.int .i64 (a*b))) [] []:=by
 refine B.bin hx hy ?_
 show qE (some (in64 (a*b),lit (.int .i64 (a*b))))=_
 have:in64 (a*b)=true:=zl h
 rw[this];rfl
theorem B.quo {a b:Int} (hx:ev1 s x=lit (.int .i64 a)) (hy:ev1 s y=lit (.int .i64 b)) (h:b≠0/\R64 (a.tdiv b)):Body P Y nb s ⟨dst,.binOp .quo t x y u,ty,pos,af,gd⟩ (lit (.int .i64 (a.tdiv b))) [] []:=by
 refine B.bin hx hy ?_
 show qE (some (b != 0&&in64 (a.tdiv b),lit (.int .i64 (a.tdiv b))))=_
 have:in64 (a.tdiv b)=true:=zl h.2
 have h0:(b != 0)=true:=by simpa using h.1
 rw[this,h0];rfl
theorem B.rem {a b:Int} (hx:ev1 s x=lit (.int .i64 a)) (hy:ev1 s y=lit (.int .i64 b)) (h:b≠0):Body P Y nb s ⟨dst,.binOp .rem t x y u,ty,pos,af,gd⟩ (lit (.int .i64 (a.tmod b))) [] []:=by
 refine B.bin hx hy ?_
 show qE (some (b != 0,lit (.int .i64 (a.tmod b))))=_
 have h0:(b != 0)=true:=by simpa using h
 rw[h0];rfl
section
variable {k:IntKind} {a b:Int}
theorem kk (k:IntKind):(if k=k then (some true:Option Bool) else none)=some true:=WK rfl
theorem B.lss (hx:ev1 s x=lit (.int k a)) (hy:ev1 s y=lit (.int k b)):Body P Y nb s ⟨dst,.binOp .lss t x y u,ty,pos,af,gd⟩ (lit (.bool (decide (a<b)))) [] []:=by
 refine B.bin hx hy ?_
 cases k<;>rfl
theorem B.leq (hx:ev1 s x=lit (.int k a)) (hy:ev1 s y=lit (.int k b)):Body P Y nb s ⟨dst,.binOp .leq t x y u,ty,pos,af,gd⟩ (lit (.bool (decide (a<=b)))) [] []:=by
 refine B.bin hx hy ?_
 cases k<;>rfl
theorem B.gtr (hx:ev1 s x=lit (.int k a)) (hy:ev1 s y=lit (.int k b)):Body P Y nb s ⟨dst,.binOp .gtr t x y u,ty,pos,af,gd⟩ (lit (.bool (decide (b<a)))) [] []:=by
 refine B.bin hx hy ?_
 cases k<;>rfl
theorem B.geq (hx:ev1 s x=lit (.int k a)) (hy:ev1 s y=lit (.int k b)):Body P Y nb s ⟨dst,.binOp .geq t x y u,ty,pos,af,gd⟩ (lit (.bool (decide (b<=a)))) [] []:=by
 refine B.bin hx hy ?_
 cases k<;>rfl
theorem B.eql (hx:ev1 s x=lit (.int k a)) (hy:ev1 s y=lit (.int k b)):Body P Y nb s ⟨dst,.binOp .eql t x y u,ty,pos,af,gd⟩ (lit (.bool (decide (a=b)))) [] []:=by
 refine B.bin hx hy ?_
 have:(a==b)=decide (a=b):=rfl
 cases k<;>rfl
theorem B.neq (hx:ev1 s x=lit (.int k a)) (hy:ev1 s y=lit (.int k b)):Body P Y nb s ⟨dst,.binOp .neq t x y u,ty,pos,af,gd⟩ (lit (.bool (decide (a≠b)))) [] []:=by
 refine B.bin hx hy ?_
 have:decide (a≠b)=(a != b):=by rw[zL];simp
 rw[this]
 cases k<;>rfl
end
section
variable {a b:ByteArray}
theorem toList_inj {a b:ByteArray}:a.toList=b.toList↔a=b:=by
 constructor
 ·intro h
  rw[ByteArray.toList_eq,ByteArray.toList_eq] at h
  exact Kg (Array.toList_inj.1 h)
 rintro rfl;rfl
theorem B.seql (hx:ev1 s x=lit (.string a)) (hy:ev1 s y=lit (.string b)):Body P Y nb s ⟨dst,.binOp .eql t x y u,ty,pos,af,gd⟩ (lit (.bool (decide (a=b)))) [] []:=by
 refine B.bin hx hy ?_
 have:decide (a=b)=(a.toList==b.toList):=by rw[zL];simp[toList_inj]
 rw[this];rfl
theorem B.sneq (hx:ev1 s x=lit (.string a)) (hy:ev1 s y=lit (.string b)):Body P Y nb s ⟨dst,.binOp .neq t x y u,ty,pos,af,gd⟩ (lit (.bool (decide (a≠b)))) [] []:=by
 refine B.bin hx hy ?_
 have:decide (a≠b)=!(a.toList==b.toList):=by rw[zL];simp[toList_inj]
 rw[this];rfl
end
theorem B.not {b:Bool} (hx:ev1 s x=lit (.bool b)):Body P Y nb s ⟨dst,.unOp .not t x,ty,pos,af,gd⟩ (lit (.bool (!b))) [] []:=by
 refine B.pure (lo:=0) (nm:=0) (kn P) ?_ ?_
 ·intro z hz
  have:z=x:=by simpa [Op.operands] using hz
  rw[this,hx];rfl
 show qE (unQ .not (evU (tmpsOf [x]) s x))=_
 rw[qR ao,hx];rfl
theorem B.neg {a:Int} (hx:ev1 s x=lit (.int .i64 a)) (h:R64 (0-a)):Body P Y nb s ⟨dst,.unOp .neg t x,ty,pos,af,gd⟩ (lit (.int .i64 (0-a))) [] []:=by
 refine B.pure (lo:=0) (nm:=0) (kn P) ?_ ?_
 ·intro z hz
  have:z=x:=by simpa [Op.operands] using hz
  rw[this,hx];rfl
 show qE (unQ .neg (evU (tmpsOf [x]) s x))=_
 rw[qR ao,hx]
 show qE (some (in64 (0-a),lit (.int .i64 (0-a))))=_
 have:in64 (0-a)=true:=zl h
 rw[this];rfl
theorem B.pick {c x y:Operand} {β x' y':Bool} {sx sy:Bool} (hc:ev1 s c=lit (.bool β)) (hrx:(evS s x).refs=[]) (hry:(evS s y).refs=[]) (hx:gdBool (ev1 s x)=some (sx,x')) (hy:gdBool (ev1 s y)=some (sy,y')) (h:(bif β then sx else sy)=true) :
  Body P Y nb s ⟨dst,.pick c x y,ty,pos,af,gd⟩ (lit (.bool (bif β then x' else y'))) [] []:=by
 refine B.pure (lo:=0) (nm:=0) (kn P) ?_ ?_
 ·intro z hz
  have:z=c\/z=x\/z=y:=by simpa [Op.operands] using hz
  rcases this with rfl|rfl|rfl
  ·rw[hc];rfl
  ·unfold ev1;rw[refs_evD];exact hrx
  unfold ev1;rw[refs_evD];exact hry
 have e1:evU (tmpsOf [c,x,y]) s c=_:=(qR ao).trans hc
 have e2:evU (tmpsOf [c,x,y]) s x=_:=qR ao
 have e3:evU (tmpsOf [c,x,y]) s y=_:=qR ao
 have hq:qv Y (.pick c x y) (evU (tmpsOf [c,x,y]) s) (qr [])=some (true,lit (.bool (bif β then x' else y'))):=by grind [qv,lit]
 show (match effV Y 0 dst (.pick c x y) (evU (tmpsOf [c,x,y]) s) (qr []) with|some ⟨true,v,m⟩=>some (v,m)|_=>none)=_
 have:effV Y 0 dst (.pick c x y) (evU (tmpsOf [c,x,y]) s) (qr [])=Z0 (qv Y (.pick c x y) (evU (tmpsOf [c,x,y]) s) (qr [])):=rfl
 rw[this,hq];rfl
theorem qu {c:Bool} {d:DV} (h:evS s x=.gd c d) (hc:c=true):ev1 s x=d:=by unfold ev1;rw[h,hc];rfl
theorem gdB {c b:Bool} (h:evS s x=.gd c (lit (.bool b))):gdBool (ev1 s x)=some (c,b):=by unfold ev1;rw[h];cases c<;>rfl
theorem pick_tt (β:Bool):(bif β then true else true)=true:=by cases β<;>rfl
theorem pick_or (β:Bool):(bif β then true else (β==false))=true:=by cases β<;>rfl
theorem pick_and (β:Bool):(bif β then (β==true) else true)=true:=by cases β<;>rfl
theorem pick_or2 {c β:Bool} (h:c=true):(bif β then true else (c&&(β==false)))=true:=by subst h;cases β<;>rfl
theorem pick_and2 {c β:Bool} (h:c=true):(bif β then (c&&(β==true)) else true)=true:=by subst h;cases β<;>rfl
theorem B.idx {α:Type} {enc:α->List PV} {l:List α} {z:α} {i:Nat} {k:IntKind} {n:Int} {e:TypeId} {sz:Nat} (hx:ev1 s x=.pv (.slice (l.map enc))) (hy:ev1 s y=lit (.int k n))
  (und:Y.underlying t=some (.slice e)) (hs:szT Y e=some sz) (hsz:∀ a,(enc a).length=sz) (hn:n=(i:Int)) (hlt:i<l.length) :
  Body P Y nb s ⟨dst,.indexAddr t x y,ty,pos,af,gd⟩ (.pv (.box (enc (l.getD i z)))) [] []:=by
 refine B.pure (lo:=0) (nm:=0) (kn P) ?_ ?_
 ·intro v hv
  have:v=x\/v=y:=by simpa [Op.operands] using hv
  rcases this with rfl|rfl
  ·rw[hx];rfl
  rw[hy];rfl
 show qE (jT Y t (qr []) (evU (tmpsOf [x,y]) s x) (evU (tmpsOf [x,y]) s y))=_
 rw[qR ao,qR ao,hx,hy]
 show qE (jV Y t (qr []) (.pv (.slice (l.map enc))) (lit (.int k n)))=_
 unfold jV lit
 rw[und]
 simp only[hs]
 have h1:decide (0<=n/\n<((l.map enc).length:Int))=true:=by grind
 have h2:j6 sz (l.map enc)=true:=by
  unfold j6
  grind
 have h3:(l.map enc).getD n.toNat []=enc (l.getD i z):=by grind
 rw[h1,h2,h3];rfl
theorem B.loadP {p:PV} {cs:List PV} (hx:ev1 s x=.pv (.box (p::cs))) (ha:aggT Y t=some false) {n:Nat} (hs:szT Y t=some n):Body P Y nb s ⟨dst,.load t x,ty,pos,af,gd⟩ (.pv p) [] []:=by
 refine B.pure (lo:=0) (nm:=0) (kn P) ?_ ?_
 ·intro z hz
  have:z=x:=by simpa [Op.operands] using hz
  rw[this,hx];rfl
 show qE (Z4 Y t (qr []) (evU (tmpsOf [x]) s x))=_
 rw[qR ao,hx]
 unfold Z4
 rw[ha,hs];rfl
theorem B.loadA {ds cs:List PV} (hx:ev1 s x=.pv (.box cs)) (ha:aggT Y t=some true) {n:Nat} (hs:szT Y t=some n) (hn:n<=cs.length) (hd:cs.take n=ds):Body P Y nb s ⟨dst,.load t x,ty,pos,af,gd⟩ (.pv (.agg ds)) [] []:=by
 refine B.pure (lo:=0) (nm:=0) (kn P) ?_ ?_
 ·intro z hz
  have:z=x:=by simpa [Op.operands] using hz
  rw[this,hx];rfl
 show qE (Z4 Y t (qr []) (evU (tmpsOf [x]) s x))=_
 rw[qR ao,hx]
 unfold Z4
 rw[ha,hs]
 have:decide (n<=cs.length)=true:=zl hn
 simp only[ql,this,hd];rfl
def fadQ (Y:Tab) (t:TypeId) (f:Nat):Option Nat:=match fieldOf Y t f with
 | some fd=>match szT Y fd.type with
  | some (_+1)=>some fd.offset
  | _=>none
 | none=>none
theorem fadQ_spec {f off:Nat} (h:fadQ Y t f=some off):∃ fd n,fieldOf Y t f=some fd/\szT Y fd.type=some (n+1)/\fd.offset=off:=by
 unfold fadQ at h
 grind
theorem B.fadP {f off:Nat} {cs cs':List PV} (hx:ev1 s x=.pv (.box cs)) (hf:fadQ Y t f=some off) (hd:cs.drop off=cs'):Body P Y nb s ⟨dst,.fieldAddr t x f,ty,pos,af,gd⟩ (.pv (.box cs')) [] []:=by
 obtain⟨fd,n,h1,h2,rfl⟩:=fadQ_spec hf
 refine B.pure (lo:=0) (nm:=0) (kn P) ?_ ?_
 ·intro z hz
  have:z=x:=by simpa [Op.operands] using hz
  rw[this,hx];rfl
 show qE (kf Y t f (qr []) (evU (tmpsOf [x]) s x))=_
 rw[qR ao,hx]
 unfold kf
 simp only[h1,h2,hd];rfl
theorem B.fadB {f off h c c':Nat} (hx:ev1 s x=.bref h c) (hf:fadQ Y t f=some off) (hc:c+off=c'):Body P Y nb s ⟨dst,.fieldAddr t x f,ty,pos,af,gd⟩ (.bref h c') [] []:=by
 obtain⟨fd,n,h1,h2,rfl⟩:=fadQ_spec hf
 have e:evU (tmpsOf [x]) s x=.bref h c:=(qR ao).trans hx
 refine .inl ⟨O0,[(h,.gone)],_,_,0,0,kn P,?_,?_,?_,?_,Frz.refl _ _ _,rfl⟩
 ·show ledM s.ms ([x].flatMap fun x'=>(evU (tmpsOf [x]) s x').refs) (lvl (.fieldAddr t x f) (evU (tmpsOf [x]) s))=_
  simp only[XV,Jc,zR,lvl,e,DV.refs,ledM,zy,zX]
 ·show rdM s.ms ([x].flatMap fun x'=>(evU (tmpsOf [x]) s x').refs) [(h,.gone)] (lvl (.fieldAddr t x f) (evU (tmpsOf [x]) s))=_
  simp only[XV,Jc,zR,lvl,e,DV.refs,rdM]
 ·show (q7 [(h,.gone)]&&([x].flatMap fun x'=>(evU (tmpsOf [x]) s x').refs).all (jH [(h,.gone)]))=true
  simp[e,DV.refs,q7,MO.refs,jH,qy]
 show qE (kf Y t f (qr [(h,.gone)]) (evU (tmpsOf [x]) s x))=_
 rw[e]
 unfold kf
 simp only[h1,h2,hc];rfl
theorem ledB {h c:Nat} {T:TypeId} {ds:List DV} {ms:Na} (hm:qr ms h=some (.box T ds)) (hr:DV.qL ds=[]):ledM ms (DV.bref h c).refs 1=[(h,.box T ds)]/\rdM ms (DV.bref h c).refs [(h,.box T ds)] 1=[h]:=by simp only[DV.refs,ledM,nearM,rdM,sel,hm,XV,Jc,MO.refs,hr,zR,zX,zy,WB]
theorem B.loadB {h c:Nat} {T:TypeId} {ds:List DV} {d:DV} (hx:ev1 s x=.bref h c) (hm:qr s.ms h=some (.box T ds)) (hr:DV.qL ds=[]) (ha:aggT Y t=some false) {n:Nat} (hs:szT Y t=some n) (hd:ds[c]? =some d) :
  Body P Y nb s ⟨dst,.load t x,ty,pos,af,gd⟩ d [] [h]:=by
 have e:evU (tmpsOf [x]) s x=.bref h c:=(qR ao).trans hx
 have hc:c<ds.length:=(QD.1 hd).1
 refine .inl ⟨O0,[(h,.box T ds)],_,_,0,0,kn P,?_,?_,?_,?_,Frz.refl _ _ _,rfl⟩
 ·show ledM s.ms ([x].flatMap fun x'=>(evU (tmpsOf [x]) s x').refs) 1=_
  simp only[XV,Jc,zR,e];exact (ledB hm hr).1
 ·show rdM s.ms ([x].flatMap fun x'=>(evU (tmpsOf [x]) s x').refs) [(h,.box T ds)] 1=_
  simp only[XV,Jc,zR,e];exact (ledB hm hr).2
 ·show (q7 [(h,.box T ds)]&&([x].flatMap fun x'=>(evU (tmpsOf [x]) s x').refs).all (jH [(h,.box T ds)]))=true
  simp[e,DV.refs,q7,MO.refs,jH,qy,hr]
 show qE (Z4 Y t (qr [(h,.box T ds)]) (evU (tmpsOf [x]) s x))=_
 rw[e]
 unfold Z4
 rw[ha,hs]
 have:decide (c<ds.length)=true:=zl hc
 have e2:qr [(h,MO.box T ds)] h=some (.box T ds):=by rw[qy,WK rfl]
 simp only[e2,qk,qm,this,ze,hd,zO];rfl
theorem B.loadBA {h c:Nat} {T:TypeId} {ds:List DV} {d:DV} (hx:ev1 s x=.bref h c) (hm:qr s.ms h=some (.box T ds)) (hr:DV.qL ds=[]) (ha:aggT Y t=some true) {n:Nat} (hs:szT Y t=some n) (hc:Nat.ble (c+n) ds.length=true) (hd:mkAgg ((ds.drop c).take n)=d) :
  Body P Y nb s ⟨dst,.load t x,ty,pos,af,gd⟩ d [] [h]:=by
 have e:evU (tmpsOf [x]) s x=.bref h c:=(qR ao).trans hx
 refine .inl ⟨O0,[(h,.box T ds)],_,_,0,0,kn P,?_,?_,?_,?_,Frz.refl _ _ _,rfl⟩
 ·show ledM s.ms ([x].flatMap fun x'=>(evU (tmpsOf [x]) s x').refs) 1=_
  simp only[XV,Jc,zR,e];exact (ledB hm hr).1
 ·show rdM s.ms ([x].flatMap fun x'=>(evU (tmpsOf [x]) s x').refs) [(h,.box T ds)] 1=_
  simp only[XV,Jc,zR,e];exact (ledB hm hr).2
 ·show (q7 [(h,.box T ds)]&&([x].flatMap fun x'=>(evU (tmpsOf [x]) s x').refs).all (jH [(h,.box T ds)]))=true
  simp[e,DV.refs,q7,MO.refs,jH,qy,hr]
 show qE (Z4 Y t (qr [(h,.box T ds)]) (evU (tmpsOf [x]) s x))=_
 rw[e]
 unfold Z4
 rw[ha,hs]
 have:decide (c+n<=ds.length)=true:=zl (zW hc)
 have e2:qr [(h,MO.box T ds)] h=some (.box T ds):=by rw[qy,WK rfl]
 simp only[e2,ql,this,hd];rfl
theorem B.lenQ1 {a:PV} {d:DV} {at':TypeId} (hx:ev1 s x=.pv a) (h:lenQ Y at' (qr []) (.pv a)=some (true,d)):Body P Y nb s ⟨dst,.call ⟨.builtin .len,⟨[x]⟩,⟨[at']⟩⟩,ty,pos,af,gd⟩ d [] []:=by
 refine B.pure (lo:=0) (nm:=0) (kn P) ?_ ?_
 ·intro z hz
  have:z=x:=by simpa [Op.operands,Call.operands] using hz
  rw[this,hx];rfl
 have e:evU (tmpsOf [x]) s x=.pv a:=(qR ao).trans hx
 show (match Z0 (lenQ Y at' (qr []) (evU (tmpsOf [x]) s x)) with|some ⟨true,v,m⟩=>some (v,m)|_=>none)=_
 rw[e,h];rfl
theorem B.ju {α:Type} {enc:α->List PV} {l:List α} {at' e:TypeId} (hx:ev1 s x=.pv (.slice (l.map enc))) (hu:Y.underlying at'=some (.slice e)):Body P Y nb s ⟨dst,.call ⟨.builtin .len,⟨[x]⟩,⟨[at']⟩⟩,ty,pos,af,gd⟩ (lit (.int .i64 (l.length:Int))) [] []:=by
 refine B.lenQ1 hx ?_
 unfold lenQ
 rw[hu]
 simp[lenOf]
theorem B.lenS {a:ByteArray} {at':TypeId} (hx:ev1 s x=lit (.string a)) (hu:Y.underlying at'=some .string):Body P Y nb s ⟨dst,.call ⟨.builtin .len,⟨[x]⟩,⟨[at']⟩⟩,ty,pos,af,gd⟩ (lit (.int .i64 (a.size:Int))) [] []:=by
 refine B.lenQ1 hx ?_
 unfold lenQ
 rw[hu]
theorem B.max {y:Operand} {k:IntKind} {a b:Int} {ats:Array TypeId} (hx:ev1 s x=lit (.int k a)) (hy:ev1 s y=lit (.int k b)):Body P Y nb s ⟨dst,.call ⟨.builtin .max,⟨[x,y]⟩,ats⟩,ty,pos,af,gd⟩ (lit (.int k (Max.max a b))) [] []:=by
 refine B.pure (lo:=0) (nm:=0) (kn P) ?_ ?_
 ·intro z hz
  have:z=x\/z=y:=by simpa [Op.operands,Call.operands] using hz
  rcases this with rfl|rfl
  ·rw[hx];rfl
  rw[hy];rfl
 have e1:evU (tmpsOf [x,y]) s x=_:=(qR ao).trans hx
 have e2:evU (tmpsOf [x,y]) s y=_:=(qR ao).trans hy
 show (match Z0 (maxQ2 true [evU (tmpsOf [x,y]) s x,evU (tmpsOf [x,y]) s y]) with|some ⟨true,v,m⟩=>some (v,m)|_=>none)=_
 rw[e1,e2]
 have:(if a<b then b else a)=Max.max a b:=aa
 simp only[maxQ2,lit,ql,this,Z0]
theorem B.min {y:Operand} {k:IntKind} {a b:Int} {ats:Array TypeId} (hx:ev1 s x=lit (.int k a)) (hy:ev1 s y=lit (.int k b)):Body P Y nb s ⟨dst,.call ⟨.builtin .min,⟨[x,y]⟩,ats⟩,ty,pos,af,gd⟩ (lit (.int k (Min.min a b))) [] []:=by
 refine B.pure (lo:=0) (nm:=0) (kn P) ?_ ?_
 ·intro z hz
  have:z=x\/z=y:=by simpa [Op.operands,Call.operands] using hz
  rcases this with rfl|rfl
  ·rw[hx];rfl
  rw[hy];rfl
 have e1:evU (tmpsOf [x,y]) s x=_:=(qR ao).trans hx
 have e2:evU (tmpsOf [x,y]) s y=_:=(qR ao).trans hy
 show (match Z0 (maxQ2 false [evU (tmpsOf [x,y]) s x,evU (tmpsOf [x,y]) s y]) with|some ⟨true,v,m⟩=>some (v,m)|_=>none)=_
 rw[e1,e2]
 have:(if b<a then b else a)=Min.min a b:=aa
 simp only[maxQ2,lit,ql,qk,qm,this,Z0]
theorem B.slT {α:Type} {enc:α->List PV} {l:List α} {hi:Operand} {k:IntKind} {n:Int} {j:Nat} {e:TypeId} {sz:Nat} (hx:ev1 s x=.pv (.slice (l.map enc))) (hy:ev1 s hi=lit (.int k n)) (hu:Y.underlying t=some (.slice e)) (hs:szT Y e=some sz) (hn:n=(j:Int)) (hj:j<=l.length) :
  Body P Y nb s ⟨dst,.slice t x none (some hi) none,ty,pos,af,gd⟩ (.pv (.slice ((l.take j).map enc))) [] []:=by
 refine B.pure (lo:=0) (nm:=0) (kn P) ?_ ?_
 ·intro z hz
  have:z=x\/z=hi:=by simpa [Op.operands] using hz
  rcases this with rfl|rfl
  ·rw[hx];rfl
  rw[hy];rfl
 have e1:evU (tmpsOf [x,hi]) s x=_:=(qR ao).trans hx
 have e2:evU (tmpsOf [x,hi]) s hi=_:=(qR ao).trans hy
 have hv:effV Y 0 dst (.slice t x none (some hi) none) (evU (tmpsOf [x,hi]) s) (qr [])=Z0 (kU Y t (qr []) (evU (tmpsOf [x,hi]) s x) none (some (evU (tmpsOf [x,hi]) s hi)) none):=rfl
 show (match effV Y 0 dst (.slice t x none (some hi) none) (evU (tmpsOf [x,hi]) s) (qr []) with|some ⟨true,v,m⟩=>some (v,m)|_=>none)=_
 rw[hv,e1,e2]
 have hq:kU Y t (qr []) (.pv (.slice (l.map enc))) none (some (lit (.int k n))) none=some (true,.pv (.slice ((l.take j).map enc))):=by
  show Za Y t (qr []) (.pv (.slice (l.map enc))) none (some (lit (.int k n))) none=_
  unfold Za lit
  simp only[hu,bound,hs,zO]
  subst hn
  have:decide (0<=(j:Int)/\(j:Int)<=((l.map enc).length:Int))=true:=zl ⟨aa,by rw[zI];omega⟩
  rw[this,zT,Ki]
 rw[hq];rfl
end
noncomputable def bodyX (Y:Tab) (nb:Nat) (s:St) (o:Oper):Option (DV×Na×List Nat):=
 let xs:=o.op.operands.toList
 let ev:=evU (tmpsOf xs) s
 let rs:=xs.flatMap fun x=>(ev x).refs
 let l:=ledM s.ms rs (lvl o.op ev)
 bif q7 l&&rs.all (jH l) then
  match effX O0 Y (maxN s.ms nb) (nameOf nb s.ms o.dst) o ev l with
  | some (val,m)=>bif m.all (fun p=>jH l p.1||!jH s.ms p.1) then some (val,m,rdM s.ms rs l (lvl o.op ev)) else none
  | none=>none
 else none
theorem B.runZ {val0 val:DV} {m0 m:Na} {rd:List Nat} (h:bodyX Y nb s o=some (val0,m0,rd)) (hz:∀ l,Frz l val0 m0 val m) (hk:m.map (·.1)=m0.map (·.1)):Body P Y nb s o val m rd:=by
 unfold bodyX at h
 simp only at h
 generalize hl:ledM s.ms (o.op.operands.toList.flatMap fun x=>(evU (tmpsOf o.op.operands.toList) s x).refs) (lvl o.op (evU (tmpsOf o.op.operands.toList) s))=l at h
 cases hq:(q7 l&&(o.op.operands.toList.flatMap fun x=>(evU (tmpsOf o.op.operands.toList) s x).refs).all (jH l)) with
 | false=>rw[hq] at h;cases h
 | true=>
  rw[hq] at h
  simp only[Wy] at h
  split at h
  ·rename_i v mm he
   cases hq2:(mm.all fun p=>jH l p.1||!jH s.ms p.1) with
   | false=>rw[hq2] at h;cases h
   | true=>
    rw[hq2] at h
    simp only[Wy,zh,zx] at h
    obtain⟨e1,e2,hrd⟩:=h
    subst e1;subst e2
    refine .inl ⟨O0,l,_,_,_,_,kn P,hl,hrd,hq,he,hz l,?_⟩
    rw[zr] at hq2 ⊢
    intro p hp
    have:p.1∈mm.map (·.1):=by rw[<-hk];exact zE.2 ⟨p,hp,rfl⟩
    grind
  cases h
theorem B.run {val:DV} {m:Na} {rd:List Nat} (h:bodyX Y nb s o=some (val,m,rd)):Body P Y nb s o val m rd:=
 B.runZ h (fun l=>Frz.refl l _ _) rfl
theorem Frz.arr (l:Na) (h v sz:Nat) (T:TypeId) (es:List (List PV)):Frz l (.aref h v) [(h,.arr v sz T es)] (.pv (.slice es)) [(h,.farr v es)]:=by
 intro G w G1 w1 r M S
 have M1:=M.out S
 obtain⟨G2,S2⟩:=frz_stepped M1 (h:=h) (o:=.farr v es) (by simp[frzStep,upd,jw])
 have S3:=S.trans M S2
 have e:mrg [(h,MO.farr v es)] [(h,MO.arr v sz T es)]=[(h,MO.farr v es)]:=by simp[mrg,jw]
 rw[e] at S3
 refine⟨G2,{ S3 with hval:=?_,refs:=by simp[DV.refs] }⟩
 have hv:=qt.mono (G:=G1) S2.later.rd _ _ (fun k hk=>S2.keeps k (.arr v sz T es) (by
  simp only[DV.refs,zg] at hk;subst hk;simp[upd,jw])) S.hval
 simp only[qt]
 exact jC (d:=.aref h v) (look:=fun k=>if k=h then some (.farr v es) else none) (fun k m hk=>by
  split at hk
  ·rename_i e;subst e;cases hk;exact S2.hms _ _ ao
  cases hk) (by simp[pvOf]) hv
theorem EfR.on {val:DV} {m:Na} {rd:List Nat} (hg:gcond ops s o.guard=some true) (h:Body P Y nb s o val m rd):EfR P Y nb ops s o ⟨o.dst,val,m,rd⟩:=
 ⟨true,val,m,rd,hg,fun _=>h,.inl ⟨rfl,rfl⟩⟩
theorem EfR.off (hg:gcond ops s o.guard=some false):EfR P Y nb ops s o ⟨o.dst,.gd false (lit (.bool false)),[],[]⟩:=
 ⟨false,.dead,[],[],hg,fun h=>(by cases h),.inr (.inl ⟨rfl,rfl⟩)⟩
theorem EfR.sym {c:Bool} {val:DV} {rd:List Nat} (hg:gcond ops s o.guard=some c) (h:c=true->Body P Y nb s o val [] rd) (hr:refsIn s o val=true):EfR P Y nb ops s o ⟨o.dst,.gd c val,[],rd⟩:=
 ⟨c,val,[],rd,hg,h,.inr (.inr ⟨rfl,hr,rfl⟩)⟩
end
def byteAt (s:ByteArray) (i:Nat):Int:=((s.data.toList.getD i 0).toNat:Int)
section
variable {P:Program} {Y:Tab} {nb:Nat} {s:St} {ops:Array Oper} {o:Oper} {dst:Option Tmp} {ty u:TypeId} {pos:String} {af:Array Edge} {gd:Option (Nat×Bool)} {t:TypeId} {x y:Operand}
theorem B.sidx {a:ByteArray} {k:IntKind} {n:Int} {i:Nat} (hx:ev1 s x=lit (.string a)) (hy:ev1 s y=lit (.int k n)) (und:Y.underlying t=some .string) (hn:n=(i:Int)) (hlt:i<a.size) :
  Body P Y nb s ⟨dst,.index t x y,ty,pos,af,gd⟩ (lit (.int .u8 (byteAt a i))) [] []:=by
 refine B.pure (lo:=0) (nm:=0) (kn P) ?_ ?_
 ·intro v hv
  have:v=x\/v=y:=by simpa [Op.operands] using hv
  rcases this with rfl|rfl
  ·rw[hx];rfl
  rw[hy];rfl
 show qE (indexQ Y t (evU (tmpsOf [x,y]) s x) (evU (tmpsOf [x,y]) s y))=_
 rw[qR ao,qR ao,hx,hy]
 unfold indexQ lit
 rw[und]
 subst hn
 have h1:decide (0<=(i:Int)/\(i:Int)<(a.size:Int))=true:=zl ⟨aa,aa⟩
 simp only[h1,zT];rfl
theorem B.toI {k:IntKind} {a:Int} {t':TypeId} {d:TypeDesc} (hx:ev1 s x=lit (.int k a)) (hu:Y.underlying t=some d) (hu':Y.underlying t'=some (.int .i64)) (h:R64 a) (hs:s2bV Y t t' (lit (.int k a))=none) :
  Body P Y nb s ⟨dst,.convert t t' x,ty,pos,af,gd⟩ (lit (.int .i64 a)) [] []:=by
 refine B.pure (lo:=0) (nm:=0) (kn P) ?_ ?_
 ·intro z hz
  have:z=x:=by simpa [Op.operands] using hz
  rw[this,hx];rfl
 have e1:evU (tmpsOf [x]) s x=_:=(qR ao).trans hx
 show (match s2bV Y t t' (evU (tmpsOf [x]) s x) with|some ⟨true,v,m⟩=>some (v,m)|some _=>none|none=>qE (convW Y t t' (qr []) (evU (tmpsOf [x]) s x)))=_
 rw[e1,hs]
 show qE (convQ Y t t' (lit (.int k a)))=_
 unfold convQ lit
 rw[hu,hu']
 have:in64 a=true:=zl h
 simp only[wrapB,wrapN,this];rfl
theorem call_ops {f:Operand} {args:Array Operand} {ats:Array TypeId}:(Op.call ⟨.value f,args,ats⟩).operands.toList=f::args.toList:=by simp[Op.operands,Call.operands]
theorem tgtX_refs {d:DV} {fid:FuncId} {first caps:List DV} (h:tgtX d=some (fid,first,caps)):d.refs=DV.qL first++DV.qL caps:=by
 have hp:∀ ps:List PV,DV.qL (ps.map .pv)=[]:=by
  intro ps
  induction ps with
  | nil=>rfl
  | cons p ps ih=>simp only[zy,DV.qL,DV.refs,ih,zR]
 unfold tgtX at h
 grind [DV.refs]
theorem refsL_app (a b:List DV):DV.qL (a++b)=DV.qL a++DV.qL b:=by
 induction a with
 | nil=>rfl
 | cons d a ih=>simp only[zQ,DV.qL,ih,zZ]
theorem B.call {f:Operand} {args:Array Operand} {ats:Array TypeId} {fid:FuncId} {first caps ds:List DV} {val:DV} (H:qA P fid ds (qr []) val []) (hf:tgtX (ev1 s f)=some (fid,first,caps))
  (hds:first++args.toList.map (ev1 s)++caps=ds) (hr:DV.qL ds=[]):Body P Y nb s ⟨dst,.call ⟨.value f,args,ats⟩,ty,pos,af,gd⟩ val [] []:=by
 have hr2:=hr
 rw[<-hds,refsL_app,refsL_app] at hr2
 simp only[QW] at hr2
 obtain⟨⟨hr1,hr2⟩,hr3⟩:=hr2
 refine B.pure (lo:=0) (nm:=0) (one_ok H) ?_ ?_
 ·intro z hz
  rw[call_ops] at hz
  rcases zF.1 hz with rfl|hz
  ·rw[tgtX_refs hf,hr1,hr3];rfl
  have:∀ (l:List DV),DV.qL l=[]->∀ d∈l,d.refs=[]:=by
   intro l
   induction l with
   | nil=>intro _ d hd;cases hd
   | cons e l ih=>
    grind [DV.qL,List.append_eq_nil_iff]
  exact this _ hr2 _ (zE.2 ⟨z,hz,rfl⟩)
 show callE (one fid ds [] val []) 0 ⟨.value f,args,ats⟩ (evU (tmpsOf (Op.call ⟨.value f,args,ats⟩).operands.toList) s) []=_
 rw[call_ops]
 have e1:evU (tmpsOf (f::args.toList)) s f=ev1 s f:=qR ao
 have e2:args.toList.map (evU (tmpsOf (f::args.toList)) s)=args.toList.map (ev1 s):=Xs fun z hz=>qR (by simp[hz])
 unfold callE
 simp only[e1,hf,e2,hds,hr,one_eq];rfl
theorem ds1 {x1:Operand} {d1:DV} (h1:ev1 s x1=d1):([]:List DV)++([x1]:List Operand).map (ev1 s)++[]=[d1]:=by simp[h1]
theorem ds2 {x1 x2:Operand} {d1 d2:DV} (h1:ev1 s x1=d1) (h2:ev1 s x2=d2):([]:List DV)++([x1,x2]:List Operand).map (ev1 s)++[]=[d1,d2]:=by simp[h1,h2]
theorem Frz.nil {l:Na} {h sz:Nat} {T:TypeId} (hl:qr l h=none):Frz l .nils [] (.aref h 0) [(h,.arr 0 sz T [])]:=by
 intro G w G1 w1 r M S
 have hv:=S.hval
 simp only[qt] at hv
 refine⟨G1.turn h { esz:=sz,arr:=true },⟨⟨S.later.base,S.later.R0,S.later.R0c,S.later.R0m,S.later.os,S.later.tape,S.later.output,S.later.size,S.later.cold,S.later.drawn⟩,?_,?_,?_,?_,S.fresh,?_,?_,?_,S.newb,S.r0,S.r0m⟩⟩
 ·simp only[qt,Gh.turn,ql]
  exact⟨zB _,fun _=>hv⟩
 ·intro k o hk
  simp only[zg,zx] at hk
  obtain⟨rfl,rfl⟩:=hk
  simp only[qW,Gh.turn,ql]
  grind
 ·intro k o hk
  have hne:k≠h:=by grind
  have:=S.keeps k o hk
  unfold Gh.keeps at this ⊢
  simp only[Gh.turn,hne,qm];exact this
 ·intro k hk
  simp only[zy,zX,zg] at hk
  have:=S.old k ao
  simp only[Gh.turn,hk,qm];exact this
 ·intro b k hk
  rcases S.own b k hk with e|e
  ·simp at e
  exact .inr e
 ·grind [DV.refs,List.mem_singleton]
 grind [List.mem_singleton,Prod.mk.injEq,MO.refs]
theorem B.adopt (h sz:Nat) (T:TypeId) (hx:ev1 s x=.nils) (hh:jH s.ms h=false):Body P Y nb s ⟨dst,.assign x,ty,pos,af,gd⟩ (.aref h 0) [(h,.arr 0 sz T [])] []:=by
 refine B.of0 (val0:=.nils) (m0:=[]) (lo:=0) (nm:=0) (kn P) ?_ ?_ (Frz.nil Z) ?_
 ·intro z hz
  have:z=x:=by simpa [Op.operands] using hz
  rw[this,hx];rfl
 ·show mvE (evU (tmpsOf [x]) s x)=_
  rw[qR ao,hx];rfl
 simp[hh]
theorem B.append {α:Type} {enc:α->List PV} {l r:List α} {h v sz:Nat} {T:TypeId} {i:TypeInfo} {at1:TypeId} {d:Tmp} (hx:ev1 s x=.aref h v) (hm:qr s.ms h=some (.arr v sz T (l.map enc))) (hy:ev1 s y=.pv (.slice (r.map enc)))
  (hu:Y.underlying at1=some (.slice T)) (hi:Y.info? T=some i) (hok:(Nat.blt 0 i.size&&i.zero.isSome&&Nat.beq (i.zero.getD default).cells.size i.size&&Nat.beq sz i.size)=true) (hsz:∀ a,(enc a).length=sz) {bs:Nat} (hbs:i.bytes=bs)
  (hlen:(l.length+r.length)*bs<=140737488355328/\l.length+r.length<=9223372036854775807) :
  Body P Y nb s ⟨some d,.call ⟨.builtin .append,⟨[x,y]⟩,⟨[at1,at1]⟩⟩,ty,pos,af,gd⟩ (.aref h (v+1)) [(h,.arr (v+1) sz T ((l++r).map enc))] [h]:=by
 subst hbs
 simp only[zj,Wq,Ws] at hok
 obtain⟨⟨⟨k1,k2⟩,k3⟩,k4⟩:=hok
 subst k4
 have e1:evU (tmpsOf [x,y]) s x=.aref h v:=(qR ao).trans hx
 have e2:evU (tmpsOf [x,y]) s y=.pv (.slice (r.map enc)):=(qR ao).trans hy
 have hrs:([x,y].flatMap fun x'=>(evU (tmpsOf [x,y]) s x').refs)=[h]:=by simp[e1,e2,DV.refs]
 have hsel:sel s.ms (jX s.ms 10000 [h] [])=[(h,.arr v i.size T (l.map enc))]:=by
  have:jX s.ms 10000 [h] []=[h]:=by
   show (bif ([]:List Nat).any (Nat.beq h) then _ else _)=_
   simp only[Ky,Ww,hm,MO.refs,zU];rfl
  rw[this];simp only[sel,hm]
 refine .inl ⟨O0,[(h,.arr v i.size T (l.map enc))],_,_,0,0,kn P,?_,?_,?_,?_,Frz.refl _ _ _,?_⟩
 ·show ledM s.ms ([x,y].flatMap fun x'=>(evU (tmpsOf [x,y]) s x').refs) 2=_
  rw[hrs];exact hsel
 ·show rdM s.ms ([x,y].flatMap fun x'=>(evU (tmpsOf [x,y]) s x').refs) [(h,.arr v i.size T (l.map enc))] 2=_
  rw[hrs];rfl
 ·show (q7 [(h,.arr v i.size T (l.map enc))]&&([x,y].flatMap fun x'=>(evU (tmpsOf [x,y]) s x').refs).all (jH [(h,.arr v i.size T (l.map enc))]))=true
  rw[hrs]
  simp[q7,MO.refs,jH,qy]
 ·have ha:kP Y 0 at1 at1 (.aref h v) (.pv (.slice (r.map enc))) (qr [(h,.arr v i.size T (l.map enc))]) (qr [(h,.arr v i.size T (l.map enc))])=some ⟨true,.aref h (v+1),[(h,.arr (v+1) i.size T ((l++r).map enc))]⟩:=by
   unfold kP
   have hl:qr [(h,MO.arr v i.size T (l.map enc))] h=some (.arr v i.size T (l.map enc)):=by rw[qy,WK rfl]
   have hs:srcOf Y at1 at1 i (qr [(h,.arr v i.size T (l.map enc))]) (.aref h v) (.pv (.slice (r.map enc)))=some (r.map enc):=by unfold srcOf;simp[conts]
   have hq:(decide (0<i.size)&&i.zero.isSome&&decide ((i.zero.getD default).cells.size=i.size))=true:=by grind
   have hal:j6 i.size (r.map enc)=true:=by grind [j6,List.all_eq_true]
   grind
  have hv:effV Y 0 (some d) (.call ⟨.builtin .append,⟨[x,y]⟩,⟨[at1,at1]⟩⟩) (evU (tmpsOf [x,y]) s) (qr [(h,.arr v i.size T (l.map enc))])=some ⟨true,.aref h (v+1),[(h,.arr (v+1) i.size T ((l++r).map enc))]⟩:=by
   show (match truncU _ (evU (tmpsOf [x,y]) s x) with|some (d',h',m)=>_|none=>kP Y 0 at1 at1 (evU (tmpsOf [x,y]) s x) (evU (tmpsOf [x,y]) s y) _ _)=_
   rw[e1,e2]
   exact ha
  show (match effV Y 0 (some d) (.call ⟨.builtin .append,⟨[x,y]⟩,⟨[at1,at1]⟩⟩) (evU (tmpsOf [x,y]) s) (qr [(h,.arr v i.size T (l.map enc))]) with|some ⟨true,v,m⟩=>some (v,m)|_=>none)=_
  rw[hv]
 simp[jH,qy]
end
section
variable {P:Program} {n nb:Nat} {Q:Exit->St->Prop} {K:List Fr} {c x y:Code} {s:St}
theorem TK.condP [Fc] {o:Operand} {p:Prop} [Decidable p] (hc:evS s o=lit (.bool (decide p))) (hx:p->TK P n nb Q x K s) (hy:¬p->TK P n nb Q y K s):TK P n nb Q (.cond o x y) K s:=
 TK.cond hc (fun h=>hx (X6 h)) (fun h=>hy (XM h))
end
def Post (Y:Tab) (F:FnI) (lo:Nat) (val:DV) (e:Exit) (s:St):Prop:=(e=.normal\/e=.ret)/\∃ v ms,kY Y F lo [] s=some (v,ms)/\v=val/\ms=[]
theorem leaf {Y:Tab} {F:FnI} {lo:Nat} {val:DV} {s:St} {val0:DV} (h:kY Y F lo [] s=some (val0,[])) (hv:val0=val):Post Y F lo val .ret s:=⟨.inr Z,val0,[],h,hv,rfl⟩
theorem CallR.ok {P:Program} {f:FuncId} {ds:List DV} {look:Nat->Option MO} {val:DV} {ms:Na} (h:CallR P f ds look fun v m=>v=val/\m=ms):qA P f ds look val ms:=
 ⟨h.refs,fun G w vs M hv=>(h.call G w vs M hv).mono fun r w' ⟨v,m,G',⟨e1,e2⟩,S⟩=>⟨G',by rw[<-e1,<-e2];exact S⟩⟩
theorem callOk_of {P:Program} {Y:Tab} [qH P Y] {F:FnI} {f:FuncId} {fn:Func} {c:Code} (hf:P.funcs[f]? =some fn) (hb:fn.body=some c) (hn:fn.ntmps=F.n) (hr:fn.results=F.res) (he:∀ args w,(callFunc f args).run P w=.ok (.enter f args) w)
  {ds:List DV} {val:DV} (hl:ds.length<=F.n) (hrf:DV.qL ds=[])
  (h:TK P F.n 1 (Post Y F 1 val) c [] ⟨zipT 0 ds,[]⟩):qA P f ds (qr []) val []:=by
 refine CallR.ok (CallR.of (Y:=Y) (F:=F) (lo:=1) hf hb hn hr he hl (fun h hh=>by rw[hrf] at hh;cases hh) (fun h o e=>by cases e) (T.mono h ?_))
 rintro e s' ⟨h1,v,ms,h2,h3,h4⟩
 grind
theorem wk_frz {nb:Nat} {s:St} {t h:Nat} {d:DV} {o:MO} {p:PV} (ht:jJ s.tm t=d) (hd:d≠.dead) (hf:frzStep (qr s.ms) h=some o) (hp:pvOf (qr [(h,o)]) d=some p):Wk nb s ⟨(t,.pv p)::s.tm,(h,o)::s.ms⟩:=by
 intro G a w I
 obtain⟨G1,S1⟩:=frz_stepped I.mem hf
 obtain⟨I1,Sn1⟩:=I.eff (K:=nb) S1 none ao
 have I2:Inv G1 (St.vw ⟨s.tm,(h,o)::s.ms⟩) a w:=I1
 refine⟨G1,?_,Sn1⟩
 have hts:t<a.tmps.size:=by
  rcases KJ t a.tmps.size with h|h
  ·exact h
  exact absurd (ht.symm.trans (I.size t h)) hd
 have hv:qt G1 (G1.rd w) d (a.tmps.getD t undef):=by
  have:=I2.ts t
  have e:(St.vw ⟨s.tm,(h,o)::s.ms⟩).get t=d:=ht
  rw[e] at this;exact this
 have hpv:qI (G1.rd w) p (a.tmps.getD t undef):=by
  refine jC (look:=qr [(h,o)]) (fun k m hk=>?_) hp hv
  rw[qy] at hk
  split at hk
  ·rename_i e;subst e;cases hk;exact S1.hms _ _ ao
  cases hk
 refine⟨fun u=>?_,fun u hu=>?_,I2.ms,I2.fresh,I2.own,fun u k hk=>?_,I2.refsM,I2.r0,I2.r0m,I2.baseLe,I2.laid⟩
 ·show qt _ _ (jJ ((t,.pv p)::s.tm) u) _
  rw[jF]
  split
  ·rename_i e;subst e;simp only[qt];exact hpv
  exact I2.ts u
 ·show jJ ((t,.pv p)::s.tm) u=.dead
  rw[jF,WJ aa]
  exact I2.size u hu
 have hk':k∈(jJ ((t,.pv p)::s.tm) u).refs:=hk
 rw[jF] at hk'
 split at hk'
 ·simp[DV.refs] at hk'
 exact I2.refsT u k hk'
section
variable {P:Program} {Y:Tab} {n nb:Nat} {Q:Exit->St->Prop} {K:List Fr} {c:Code} {s:St}
theorem TK.frz [Fc] {t h v sz:Nat} {T0:TypeId} {es:List (List PV)} (ht:jJ s.tm t=.aref h v) (hm:qr s.ms h=some (.arr v sz T0 es)) (k:TK P n nb Q c K ⟨(t,.pv (.slice es))::s.tm,(h,.farr v es)::s.ms⟩):TK P n nb Q c K s:=
 T.weak (wk_frz ht ao aR (by simp[pvOf,qy])) k
end
section
variable {P:Program} {Y:Tab} {nb:Nat} {s:St} {ops:Array Oper} {o:Oper} {dst:Option Tmp} {ty u:TypeId} {pos:String} {af:Array Edge} {gd:Option (Nat×Bool)} {t:TypeId} {x y:Operand}
theorem Frz.nilS (l:Na):Frz l .nils [] (.pv (.slice [])) []:=by
 intro G w G1 w1 r M S
 have hv:=S.hval
 simp only[qt] at hv
 refine⟨G1,{ S with hval:=?_,refs:=by simp[DV.refs] }⟩
 grind [qt,qI]
theorem B.nilS {α:Type} {enc:α->List PV} (hx:ev1 s x=.nils):Body P Y nb s ⟨dst,.assign x,ty,pos,af,gd⟩ (.pv (.slice (List.map enc []))) [] []:=by
 refine B.of0 (val0:=.nils) (m0:=[]) (lo:=0) (nm:=0) (kn P) ?_ ?_ (Frz.nilS _) rfl
 ·intro z hz
  have:z=x:=by simpa [Op.operands] using hz
  rw[this,hx];rfl
 show mvE (evU (tmpsOf [x]) s x)=_
 rw[qR ao,hx];rfl
theorem B.quoN {a b:Int} (hx:ev1 s x=lit (.int .i64 a)) (hy:ev1 s y=lit (.int .i64 b)) (ha:0<=a) (hb:0<b) (h:R64 (a / b)):Body P Y nb s ⟨dst,.binOp .quo t x y u,ty,pos,af,gd⟩ (lit (.int .i64 (a / b))) [] []:=by
 have e:a.tdiv b=a / b:=Qt ha
 have:=B.quo (P:=P) (Y:=Y) (nb:=nb) (dst:=dst) (ty:=ty) (u:=u) (pos:=pos) (af:=af) (gd:=gd) (t:=t) hx hy ⟨aa,by rw[e];exact h⟩
 rw[e] at this;exact this
end
end Go.Lens
end
section
namespace Go.Lens.Tb
open Go.Proofs Go.Proofs.Tryz
variable [Lz]
noncomputable section
theorem j3 {P:Program} {t:TypeId} {i:TypeInfo} (h:P.types[t]? =some i):P.info? t=some i:=by
  have hl:t<P.types.size:=(zS.1 h).1
  unfold Tables.info?
  rw[WK hl];exact h
def AllT {α:Type} (Q:Nat->α->Prop):Tr α->Prop
  | .nil=>True
  | .node l k v r=>AllT Q l/\Q k v/\AllT Q r
theorem AllT.mem {α:Type} {Q:Nat->α->Prop}:∀ {t:Tr α},AllT Q t->∀ p∈t.toList,Q p.1 p.2
  | .nil,_,p,h=>by cases h
  | .node l k v r,H,p,h=>by
    obtain⟨h1,h2,h3⟩:=H
    simp only[Tr.toList,zH,zF] at h
    rcases h with h|rfl|h
    · exact AllT.mem h1 p h
    · exact h2
    · exact AllT.mem h3 p h
def QT (t:TypeId) (i:TI):Prop:=Tryz.prog.underlying t=some i.und/\Tryz.prog.info? t=some i.info/\(i.eqOk=true->(Tryz.prog.stoodInHeld t||Tryz.prog.eqGuardType Tryz.prog.depth t)=false)
def QF (f:FuncId) (F:FnI):Prop:=∃ fn,Tryz.prog.funcs[f]? =some fn/\fn.body=F.body/\fn.ntmps=F.n/\fn.results=F.res/\(∀ c,F.body=some c->jh F.n c=true)/\∀ args w,(callFunc f args).run Tryz.prog w=.ok (.enter f args) w
def dstB (F:FnI):Bool:=match F.body with|some c=>jh F.n c|none=>true
theorem dstB_ok {F:FnI} (h:dstB F=true):∀ c,F.body=some c->jh F.n c=true:=by
  intro c hc;unfold dstB at h;rw[hc] at h;exact h
abbrev mF (n m:Nat) (f:Func):FnI:=⟨n,m,f.results,f.body⟩
abbrev mT (i u:TypeInfo) (e:Bool):TI:=⟨i,u.desc,e⟩
theorem mq {f:FuncId} {F:FnI} {fn:Func} (h:Tryz.prog.funcs[f]? =some fn) (c:∀ args w,(callFunc f args).run Tryz.prog w=.ok (.enter f args) w) (e:(fn.body,fn.ntmps,fn.results)=(F.body,F.n,F.res):=by exact rfl) (d:dstB F=true:=by kernel_rfl):QF f F:=by
  simp only[zx] at e
  exact⟨fn,h,e.1,e.2.1,e.2.2,dstB_ok d,c⟩
theorem mt {t:TypeId} {i u:TypeInfo} (h:Tryz.prog.underlying t=some u.desc) (k:Tryz.prog.types[t]? =some i):QT t (mT i u false):=⟨h,j3 k,fun h=>by cases h⟩
theorem qf6:QF 6 (mF 236 0 f6):=mq func6 call6
theorem qf7:QF 7 (mF 20 0 f7):=mq func7 call7
noncomputable def fn8:=mF 298 53919893334693598447818533684862293544321700571598734101867235639295 f8
theorem qf8:QF 8 fn8:=mq func8 call8
noncomputable def fn9:=mF 33 262267 f9
theorem qf9:QF 9 fn9:=mq func9 call9
theorem qf10:QF 10 (mF 18 0 f10):=mq func10 call10
noncomputable def fn11:=mF 33 16777715 f11
theorem qf11:QF 11 fn11:=mq func11 call11
noncomputable def fn12:=mF 40 33884413 f12
theorem qf12:QF 12 fn12:=mq func12 call12
theorem qf13:QF 13 (mF 79 0 f13):=mq func13 call13
theorem qf14:QF 14 (mF 19 0 f14):=mq func14 call14
noncomputable def fn21:=mF 70 2199107211251 f21
theorem qf21:QF 21 fn21:=mq func21 call21
theorem qf23:QF 23 (mF 22 0 f23):=mq func23 call23
theorem qf24:QF 24 (mF 45 0 f24):=mq func24 call24
noncomputable def fn25:=mF 68 46116860184810750973 f25
theorem qf25:QF 25 fn25:=mq func25 call25
theorem qf26:QF 26 (mF 25 0 f26):=mq func26 call26
theorem qf29:QF 29 (mF 33 0 f29):=mq func29 call29
theorem qf30:QF 30 (mF 15 0 f30):=mq func30 call30
theorem qf31:QF 31 (mF 19 0 f31):=mq func31 call31
theorem qf32:QF 32 (mF 63 0 f32):=mq func32 call32
theorem qf33:QF 33 (mF 55 0 f33):=mq func33 call33
noncomputable def fn34:=mF 26 33571891 f34
theorem qf34:QF 34 fn34:=mq func34 call34
noncomputable def fn35:=mF 18 1005 f35
theorem qf35:QF 35 fn35:=mq func35 call35
theorem qf36:QF 36 (mF 14 0 f36):=mq func36 call36
noncomputable def fn37:=mF 2 1 f37
theorem qf37:QF 37 fn37:=mq func37 call37
noncomputable def fn38:=mF 24 116991 f38
theorem qf38:QF 38 fn38:=mq func38 call38
noncomputable def fn39:=mF 91 1208925851139830861340659 f39
theorem qf39:QF 39 fn39:=mq func39 call39
noncomputable def fn40:=mF 89 2426715299822779698212343 f40
theorem qf40:QF 40 fn40:=mq func40 call40
noncomputable def fn41:=mF 26 33571891 f41
theorem qf41:QF 41 fn41:=mq func41 call41
noncomputable def fn42:=mF 28 2130167 f42
theorem qf42:QF 42 fn42:=mq func42 call42
noncomputable def fn43:=mF 87 9671406557976997101826035 f43
theorem qf43:QF 43 fn43:=mq func43 call43
noncomputable def fn44:=mF 41 1073751037 f44
theorem qf44:QF 44 fn44:=mq func44 call44
noncomputable def fn45:=mF 27 1085 f45
theorem qf45:QF 45 fn45:=mq func45 call45
noncomputable def fn46:=mF 123 166154133302192491417913031226556383 f46
theorem qf46:QF 46 fn46:=mq func46 call46
noncomputable def fn47:=mF 14 157 f47
theorem qf47:QF 47 fn47:=mq func47 call47
noncomputable def fn48:=mF 15 4597 f48
theorem qf48:QF 48 fn48:=mq func48 call48
noncomputable def fn49:=mF 76 2305843013508663293 f49
theorem qf49:QF 49 fn49:=mq func49 call49
noncomputable def fn50:=mF 8 47 f50
theorem qf50:QF 50 fn50:=mq func50 call50
noncomputable def fn51:=mF 24 1965 f51
theorem qf51:QF 51 fn51:=mq func51 call51
noncomputable def fn52:=mF 35 15547 f52
theorem qf52:QF 52 fn52:=mq func52 call52
noncomputable def fn53:=mF 22 8253 f53
theorem qf53:QF 53 fn53:=mq func53 call53
noncomputable def fn54:=mF 7 51 f54
theorem qf54:QF 54 fn54:=mq func54 call54
noncomputable def fn55:=mF 38 16860147 f55
theorem qf55:QF 55 fn55:=mq func55 call55
noncomputable def fn56:=mF 32 135005 f56
theorem qf56:QF 56 fn56:=mq func56 call56
noncomputable def fn57:=mF 9 7 f57
theorem qf57:QF 57 fn57:=mq func57 call57
theorem qf58:QF 58 (mF 21 0 f58):=mq func58 call58
theorem qf59:QF 59 (mF 96 0 f59):=mq func59 call59
theorem qf60:QF 60 (mF 5 0 f60):=mq func60 call60
theorem qf61:QF 61 (mF 15 0 f61):=mq func61 call61
theorem qf62:QF 62 (mF 32 0 f62):=mq func62 call62
theorem qf68:QF 68 (mF 11 0 f68):=mq func68 call68
noncomputable def fn69:=mF 6 5 f69
theorem qf69:QF 69 fn69:=mq func69 call69
noncomputable def fn70:=mF 45 21137395 f70
theorem qf70:QF 70 fn70:=mq func70 call70
noncomputable def fn71:=mF 34 1055 f71
theorem qf71:QF 71 fn71:=mq func71 call71
noncomputable def fn72:=mF 16 31 f72
theorem qf72:QF 72 fn72:=mq func72 call72
theorem qf73:QF 73 (mF 14 0 f73):=mq func73 call73
noncomputable def fn74:=mF 9 31 f74
theorem qf74:QF 74 fn74:=mq func74 call74
noncomputable def fn76:=mF 29 329703 f76
theorem qf76:QF 76 fn76:=mq func76 call76
theorem qf77:QF 77 (mF 19 0 f77):=mq func77 call77
noncomputable def fn78:=mF 16 71 f78
theorem qf78:QF 78 fn78:=mq func78 call78
theorem qf79:QF 79 (mF 23 0 f79):=mq func79 call79
theorem qf80:QF 80 (mF 31 0 f80):=mq func80 call80
theorem qf81:QF 81 (mF 54 0 f81):=mq func81 call81
theorem qf82:QF 82 (mF 61 0 f82):=mq func82 call82
theorem qf83:QF 83 (mF 25 0 f83):=mq func83 call83
theorem qf84:QF 84 (mF 57 0 f84):=mq func84 call84
theorem qf85:QF 85 (mF 40 0 f85):=mq func85 call85
theorem qf86:QF 86 (mF 16 0 f86):=mq func86 call86
theorem qf87:QF 87 (mF 13 0 f87):=mq func87 call87
noncomputable def fn88:=mF 35 32831 f88
theorem qf88:QF 88 fn88:=mq func88 call88
noncomputable def fn89:=mF 4 7 f89
theorem qf89:QF 89 fn89:=mq func89 call89
noncomputable def fn90:=mF 81 2066107393849522390003 f90
theorem qf90:QF 90 fn90:=mq func90 call90
noncomputable def fn91:=mF 15 5 f91
theorem qf91:QF 91 fn91:=mq func91 call91
noncomputable def fn92:=mF 18 959 f92
theorem qf92:QF 92 fn92:=mq func92 call92
noncomputable def fn93:=mF 26 61811 f93
theorem qf93:QF 93 fn93:=mq func93 call93
noncomputable def fn94:=mF 36 459223 f94
theorem qf94:QF 94 fn94:=mq func94 call94
noncomputable def fn95:=mF 9 19 f95
theorem qf95:QF 95 fn95:=mq func95 call95
noncomputable def fn96:=mF 6 7 f96
theorem qf96:QF 96 fn96:=mq func96 call96
noncomputable def fn97:=mF 8 45 f97
theorem qf97:QF 97 fn97:=mq func97 call97
noncomputable def fn98:=mF 20 32783 f98
theorem qf98:QF 98 fn98:=mq func98 call98
noncomputable def fn99:=mF 11 5 f99
theorem qf99:QF 99 fn99:=mq func99 call99
noncomputable def fn100:=mF 41 8719974109 f100
theorem qf100:QF 100 fn100:=mq func100 call100
noncomputable def fn101:=mF 23 7741 f101
theorem qf101:QF 101 fn101:=mq func101 call101
noncomputable def fn102:=mF 11 5 f102
theorem qf102:QF 102 fn102:=mq func102 call102
noncomputable def fn103:=mF 44 1879110077 f103
theorem qf103:QF 103 fn103:=mq func103 call103
noncomputable def fn104:=mF 8 21 f104
theorem qf104:QF 104 fn104:=mq func104 call104
noncomputable def fn105:=mF 31 223 f105
theorem qf105:QF 105 fn105:=mq func105 call105
noncomputable def fn106:=mF 30 207 f106
theorem qf106:QF 106 fn106:=mq func106 call106
theorem qf107:QF 107 (mF 11 0 f107):=mq func107 call107
theorem qf108:QF 108 (mF 13 0 f108):=mq func108 call108
theorem qf109:QF 109 (mF 19 0 f109):=mq func109 call109
theorem qf110:QF 110 (mF 15 0 f110):=mq func110 call110
theorem qf111:QF 111 (mF 7 0 f111):=mq func111 call111
theorem qf112:QF 112 (mF 23 0 f112):=mq func112 call112
theorem qf113:QF 113 (mF 41 0 f113):=mq func113 call113
theorem qf114:QF 114 (mF 29 0 f114):=mq func114 call114
noncomputable def fn115:=mF 5 5 f115
theorem qf115:QF 115 fn115:=mq func115 call115
noncomputable def fn116:=mF 11 7 f116
theorem qf116:QF 116 fn116:=mq func116 call116
noncomputable def fn117:=mF 16 23 f117
theorem qf117:QF 117 fn117:=mq func117 call117
theorem qf118:QF 118 (mF 13 0 f118):=mq func118 call118
theorem qf119:QF 119 (mF 14 0 f119):=mq func119 call119
theorem qf120:QF 120 (mF 6 0 f120):=mq func120 call120
theorem qf121:QF 121 (mF 26 0 f121):=mq func121 call121
theorem qf122:QF 122 (mF 17 0 f122):=mq func122 call122
theorem qf123:QF 123 (mF 18 0 f123):=mq func123 call123
theorem qf124:QF 124 (mF 19 0 f124):=mq func124 call124
theorem qf126:QF 126 (mF 39 0 f126):=mq func126 call126
theorem qf127:QF 127 (mF 25 0 f127):=mq func127 call127
theorem qf130:QF 130 (mF 13 0 f130):=mq func130 call130
theorem qf131:QF 131 (mF 67 0 f131):=mq func131 call131
noncomputable def fn132:=mF 34 1048895 f132
theorem qf132:QF 132 fn132:=mq func132 call132
theorem qf133:QF 133 (mF 66 0 f133):=mq func133 call133
theorem qf134:QF 134 (mF 8 0 f134):=mq func134 call134
theorem qf138:QF 138 (mF 18 0 f138):=mq func138 call138
theorem qf139:QF 139 (mF 20 0 f139):=mq func139 call139
theorem qf140:QF 140 (mF 9 0 f140):=mq func140 call140
theorem qf141:QF 141 (mF 7 0 f141):=mq func141 call141
theorem qf142:QF 142 (mF 14 0 f142):=mq func142 call142
theorem qf143:QF 143 (mF 20 0 f143):=mq func143 call143
theorem qf144:QF 144 (mF 12 0 f144):=mq func144 call144
theorem qf145:QF 145 (mF 25 0 f145):=mq func145 call145
theorem qf146:QF 146 (mF 40 0 f146):=mq func146 call146
theorem qf147:QF 147 (mF 9 0 f147):=mq func147 call147
theorem qf148:QF 148 (mF 206 0 f148):=mq func148 call148
theorem qf149:QF 149 (mF 15 0 f149):=mq func149 call149
theorem qf150:QF 150 (mF 42 0 f150):=mq func150 call150
theorem qf151:QF 151 (mF 41 0 f151):=mq func151 call151
theorem qf152:QF 152 (mF 35 0 f152):=mq func152 call152
theorem qf153:QF 153 (mF 72 0 f153):=mq func153 call153
noncomputable def fn154:=mF 17 563 f154
theorem qf154:QF 154 fn154:=mq func154 call154
noncomputable def fn155:=mF 6 7 f155
theorem qf155:QF 155 fn155:=mq func155 call155
noncomputable def fn156:=mF 13 15 f156
theorem qf156:QF 156 fn156:=mq func156 call156
noncomputable def fn157:=mF 16 31 f157
theorem qf157:QF 157 fn157:=mq func157 call157
noncomputable def fn158:=mF 21 266195 f158
theorem qf158:QF 158 fn158:=mq func158 call158
noncomputable def fn159:=mF 41 65551 f159
theorem qf159:QF 159 fn159:=mq func159 call159
noncomputable def fn160:=mF 28 33569243 f160
theorem qf160:QF 160 fn160:=mq func160 call160
noncomputable def fn161:=mF 74 2656348316587754799055 f161
theorem qf161:QF 161 fn161:=mq func161 call161
noncomputable def fn162:=mF 21 266195 f162
theorem qf162:QF 162 fn162:=mq func162 call162
noncomputable def fn163:=mF 9 31 f163
theorem qf163:QF 163 fn163:=mq func163 call163
noncomputable def fn164:=mF 32 60575 f164
theorem qf164:QF 164 fn164:=mq func164 call164
theorem qf165:QF 165 (mF 7 0 f165):=mq func165 call165
noncomputable def fn166:=mF 9 19 f166
theorem qf166:QF 166 fn166:=mq func166 call166
noncomputable def fn167:=mF 23 7741 f167
theorem qf167:QF 167 fn167:=mq func167 call167
noncomputable def fn168:=mF 21 266195 f168
theorem qf168:QF 168 fn168:=mq func168 call168
noncomputable def fn169:=mF 16 11 f169
theorem qf169:QF 169 fn169:=mq func169 call169
noncomputable def fn170:=mF 21 266195 f170
theorem qf170:QF 170 fn170:=mq func170 call170
theorem qf171:QF 171 (mF 15 0 f171):=mq func171 call171
theorem qf172:QF 172 (mF 23 0 f172):=mq func172 call172
theorem qf174:QF 174 (mF 9 0 f174):=mq func174 call174
theorem qf175:QF 175 (mF 84 0 f175):=mq func175 call175
theorem qf176:QF 176 (mF 8 0 f176):=mq func176 call176
theorem qf177:QF 177 (mF 8 0 f177):=mq func177 call177
theorem qf179:QF 179 (mF 23 0 f179):=mq func179 call179
theorem qf180:QF 180 (mF 9 0 f180):=mq func180 call180
theorem qf181:QF 181 (mF 13 0 f181):=mq func181 call181
theorem qf182:QF 182 (mF 69 0 f182):=mq func182 call182
theorem qf183:QF 183 (mF 5 0 f183):=mq func183 call183
theorem qf184:QF 184 (mF 4 0 f184):=mq func184 call184
theorem qf185:QF 185 (mF 42 0 f185):=mq func185 call185
theorem qf186:QF 186 (mF 9 0 f186):=mq func186 call186
theorem qf187:QF 187 (mF 14 0 f187):=mq func187 call187
theorem qf188:QF 188 (mF 24 0 f188):=mq func188 call188
theorem qf189:QF 189 (mF 50 0 f189):=mq func189 call189
theorem qf190:QF 190 (mF 20 0 f190):=mq func190 call190
theorem qf191:QF 191 (mF 54 0 f191):=mq func191 call191
theorem qf192:QF 192 (mF 41 0 f192):=mq func192 call192
theorem qf193:QF 193 (mF 41 0 f193):=mq func193 call193
theorem qf194:QF 194 (mF 21 0 f194):=mq func194 call194
theorem qf195:QF 195 (mF 51 0 f195):=mq func195 call195
theorem qf196:QF 196 (mF 10 0 f196):=mq func196 call196
theorem qf197:QF 197 (mF 80 0 f197):=mq func197 call197
theorem qf199:QF 199 (mF 6 0 f199):=mq func199 call199
theorem qf200:QF 200 (mF 39 0 f200):=mq func200 call200
theorem qf201:QF 201 (mF 21 0 f201):=mq func201 call201
theorem qf202:QF 202 (mF 77 0 f202):=mq func202 call202
theorem qf203:QF 203 (mF 13 0 f203):=mq func203 call203
noncomputable def fn204:=mF 55 549755814911 f204
theorem qf204:QF 204 fn204:=mq func204 call204
noncomputable def fn205:=mF 19 66483 f205
theorem qf205:QF 205 fn205:=mq func205 call205
theorem qf206:QF 206 (mF 18 0 f206):=mq func206 call206
theorem qf207:QF 207 (mF 143 0 f207):=mq func207 call207
theorem qf215:QF 215 (mF 137 0 f215):=mq func215 call215
theorem qf216:QF 216 (mF 13 0 f216):=mq func216 call216
theorem qf219:QF 219 (mF 25 0 f219):=mq func219 call219
theorem qf221:QF 221 (mF 8 0 f221):=mq func221 call221
theorem qf222:QF 222 (mF 125 0 f222):=mq func222 call222
theorem qf223:QF 223 (mF 19 0 f223):=mq func223 call223
theorem qf224:QF 224 (mF 14 0 f224):=mq func224 call224
noncomputable def fn225:=mF 13 0 f225
theorem qf225:QF 225 fn225:=mq func225 call225
theorem qf226:QF 226 (mF 14 0 f226):=mq func226 call226
theorem qf227:QF 227 (mF 19 0 f227):=mq func227 call227
theorem qf228:QF 228 (mF 148 0 f228):=mq func228 call228
theorem qf229:QF 229 (mF 8 0 f229):=mq func229 call229
theorem qf231:QF 231 (mF 21 0 f231):=mq func231 call231
theorem qf233:QF 233 (mF 8 0 f233):=mq func233 call233
theorem qf241:QF 241 (mF 135 0 f241):=mq func241 call241
theorem qf242:QF 242 (mF 6 0 f242):=mq func242 call242
theorem qf243:QF 243 (mF 40 0 f243):=mq func243 call243
theorem qf244:QF 244 (mF 186 0 f244):=mq func244 call244
theorem qf250:QF 250 (mF 25 0 f250):=mq func250 call250
theorem qf253:QF 253 (mF 30 0 f253):=mq func253 call253
theorem qf256:QF 256 (mF 20 0 f256):=mq func256 call256
theorem qf257:QF 257 (mF 53 0 f257):=mq func257 call257
abbrev lN {α:Type} (k:Nat) (v:α):Tr α:=.node .nil k v .nil
abbrev tI:=True.intro
theorem aL {α:Type} {Q:Nat->α->Prop} {k:Nat} {v:α} (h:Q k v):AllT Q (lN k v):=⟨tI,h,tI⟩
noncomputable def ft:Tr FnI:=(.node (.node (.node (.node (.node (.node (lN 8 fn8) 9 fn9 .nil) 11 fn11 (lN 12 fn12)) 21 fn21 (.node (.node (lN 25 fn25) 34 fn34 .nil) 35 fn35 (lN 37 fn37))) 38 fn38 (.node (.node (.node (lN 39 fn39) 40 fn40 .nil) 41 fn41 (lN 42 fn42)) 43 fn43 (.node (.node (lN 44 fn44) 45 fn45 .nil) 46 fn46 (lN 47 fn47)))) 48 fn48 (.node (.node (.node (.node (lN 49 fn49) 50 fn50 .nil) 51 fn51 (lN 52 fn52)) 53 fn53 (.node (.node (lN 54 fn54) 55 fn55 .nil) 56 fn56 (lN 57 fn57))) 69 fn69 (.node (.node (.node (lN 70 fn70) 71 fn71 .nil) 72 fn72 (lN 74 fn74)) 76 fn76 (.node (lN 78 fn78) 88 fn88 (lN 89 fn89))))) 90 fn90 (.node (.node (.node (.node (.node (lN 91 fn91) 92 fn92 .nil) 93 fn93 (lN 94 fn94)) 95 fn95 (.node (.node (lN 96 fn96) 97 fn97 .nil) 98 fn98 (lN 99 fn99))) 100 fn100 (.node (.node (.node (lN 101 fn101) 102 fn102 .nil) 103 fn103 (lN 104 fn104)) 105 fn105 (.node (.node (lN 106 fn106) 115 fn115 .nil) 116 fn116 (lN 117 fn117)))) 132 fn132 (.node (.node (.node (.node (lN 154 fn154) 155 fn155 .nil) 156 fn156 (lN 157 fn157)) 158 fn158 (.node (.node (lN 159 fn159) 160 fn160 .nil) 161 fn161 (lN 162 fn162))) 163 fn163 (.node (.node (.node (lN 164 fn164) 166 fn166 .nil) 167 fn167 (lN 168 fn168)) 169 fn169 (.node (lN 170 fn170) 204 fn204 (lN 205 fn205))))))
theorem ft_all:AllT QF ft:=⟨⟨⟨⟨⟨⟨(aL qf8),qf9,tI⟩,qf11,(aL qf12)⟩,qf21,⟨⟨(aL qf25),qf34,tI⟩,qf35,(aL qf37)⟩⟩,qf38,⟨⟨⟨(aL qf39),qf40,tI⟩,qf41,(aL qf42)⟩,qf43,⟨⟨(aL qf44),qf45,tI⟩,qf46,(aL qf47)⟩⟩⟩,qf48,⟨⟨⟨⟨(aL qf49),qf50,tI⟩,qf51,(aL qf52)⟩,qf53,⟨⟨(aL qf54),qf55,tI⟩,qf56,(aL qf57)⟩⟩,qf69,⟨⟨⟨(aL qf70),qf71,tI⟩,qf72,(aL qf74)⟩,qf76,⟨(aL qf78),qf88,(aL qf89)⟩⟩⟩⟩,qf90,⟨⟨⟨⟨⟨(aL qf91),qf92,tI⟩,qf93,(aL qf94)⟩,qf95,⟨⟨(aL qf96),qf97,tI⟩,qf98,(aL qf99)⟩⟩,qf100,⟨⟨⟨(aL qf101),qf102,tI⟩,qf103,(aL qf104)⟩,qf105,⟨⟨(aL qf106),qf115,tI⟩,qf116,(aL qf117)⟩⟩⟩,qf132,⟨⟨⟨⟨(aL qf154),qf155,tI⟩,qf156,(aL qf157)⟩,qf158,⟨⟨(aL qf159),qf160,tI⟩,qf161,(aL qf162)⟩⟩,qf163,⟨⟨⟨(aL qf164),qf166,tI⟩,qf167,(aL qf168)⟩,qf169,⟨(aL qf170),qf204,(aL qf205)⟩⟩⟩⟩⟩
theorem ft_ok:FtOk Tryz.prog ft:=fun p hp=>AllT.mem ft_all p hp
noncomputable def ty0:=mT t0 t0 false
theorem qt0:QT 0 ty0:=mt underlying0 type0
noncomputable def ty1:=mT t1 t1 false
theorem qt1:QT 1 ty1:=mt underlying1 type1
noncomputable def ty2:=mT t2 t2 false
theorem qt2:QT 2 ty2:=mt underlying2 type2
noncomputable def ty3:=mT t3 t3 true
theorem qt3:QT 3 ty3:=⟨underlying3,j3 type3,fun _=>ae⟩
noncomputable def ty4:=mT t4 t4 true
theorem qt4:QT 4 ty4:=⟨underlying4,j3 type4,fun _=>ae⟩
noncomputable def ty5:=mT t5 t5 true
theorem qt5:QT 5 ty5:=⟨underlying5,j3 type5,fun _=>ae⟩
noncomputable def ty6:=mT t6 t5 false
theorem qt6:QT 6 ty6:=mt underlying6 type6
noncomputable def ty7:=mT t7 t7 false
theorem qt7:QT 7 ty7:=mt underlying7 type7
noncomputable def ty8:=mT t8 t7 false
theorem qt8:QT 8 ty8:=mt underlying8 type8
noncomputable def ty9:=mT t9 t9 true
theorem qt9:QT 9 ty9:=⟨underlying9,j3 type9,fun _=>ae⟩
noncomputable def ty10:=mT t10 t9 false
theorem qt10:QT 10 ty10:=mt underlying10 type10
noncomputable def ty12:=mT t12 t12 false
theorem qt12:QT 12 ty12:=mt underlying12 type12
noncomputable def ty16:=mT t16 t16 false
theorem qt16:QT 16 ty16:=mt underlying16 type16
noncomputable def ty17:=mT t17 t17 false
theorem qt17:QT 17 ty17:=mt underlying17 type17
noncomputable def ty20:=mT t20 t20 false
theorem qt20:QT 20 ty20:=mt underlying20 type20
noncomputable def ty21:=mT t21 t21 true
theorem qt21:QT 21 ty21:=⟨underlying21,j3 type21,fun _=>ae⟩
noncomputable def ty22:=mT t22 t22 false
theorem qt22:QT 22 ty22:=mt underlying22 type22
noncomputable def ty23:=mT t23 t9 true
theorem qt23:QT 23 ty23:=⟨underlying23,j3 type23,fun _=>ae⟩
noncomputable def ty24:=mT t24 t24 false
theorem qt24:QT 24 ty24:=mt underlying24 type24
noncomputable def ty25:=mT t25 t24 false
theorem qt25:QT 25 ty25:=mt underlying25 type25
noncomputable def ty28:=mT t28 t3 true
theorem qt28:QT 28 ty28:=⟨underlying28,j3 type28,fun _=>ae⟩
noncomputable def ty29:=mT t29 t29 false
theorem qt29:QT 29 ty29:=mt underlying29 type29
noncomputable def ty31:=mT t31 t31 false
theorem qt31:QT 31 ty31:=mt underlying31 type31
noncomputable def ty32:=mT t32 t31 false
theorem qt32:QT 32 ty32:=mt underlying32 type32
noncomputable def ty34:=mT t34 t34 false
theorem qt34:QT 34 ty34:=mt underlying34 type34
noncomputable def ty40:=mT t40 t40 false
theorem qt40:QT 40 ty40:=mt underlying40 type40
noncomputable def ty44:=mT t44 t44 false
theorem qt44:QT 44 ty44:=mt underlying44 type44
noncomputable def ty51:=mT t51 t51 false
theorem qt51:QT 51 ty51:=mt underlying51 type51
noncomputable def ty56:=mT t56 t56 false
theorem qt56:QT 56 ty56:=mt underlying56 type56
noncomputable def ty58:=mT t58 t58 false
theorem qt58:QT 58 ty58:=mt underlying58 type58
noncomputable def ty62:=mT t62 t62 false
theorem qt62:QT 62 ty62:=mt underlying62 type62
noncomputable def ty63:=mT t63 t62 true
theorem qt63:QT 63 ty63:=⟨underlying63,j3 type63,fun _=>ae⟩
noncomputable def ty64:=mT t64 t64 false
theorem qt64:QT 64 ty64:=mt underlying64 type64
noncomputable def ty65:=mT t65 t65 false
theorem qt65:QT 65 ty65:=mt underlying65 type65
noncomputable def ty66:=mT t66 t65 false
theorem qt66:QT 66 ty66:=mt underlying66 type66
noncomputable def ty68:=mT t68 t68 false
theorem qt68:QT 68 ty68:=mt underlying68 type68
noncomputable def ty69:=mT t69 t69 false
theorem qt69:QT 69 ty69:=mt underlying69 type69
noncomputable def ty71:=mT t71 t71 false
theorem qt71:QT 71 ty71:=mt underlying71 type71
noncomputable def ty72:=mT t72 t71 true
theorem qt72:QT 72 ty72:=⟨underlying72,j3 type72,fun _=>ae⟩
noncomputable def ty74:=mT t74 t62 false
theorem qt74:QT 74 ty74:=mt underlying74 type74
noncomputable def ty75:=mT t75 t75 true
theorem qt75:QT 75 ty75:=⟨underlying75,j3 type75,fun _=>ae⟩
noncomputable def ty76:=mT t76 t76 false
theorem qt76:QT 76 ty76:=mt underlying76 type76
noncomputable def ty77:=mT t77 t77 false
theorem qt77:QT 77 ty77:=mt underlying77 type77
noncomputable def ty79:=mT t79 t79 false
theorem qt79:QT 79 ty79:=mt underlying79 type79
noncomputable def ty81:=mT t81 t81 false
theorem qt81:QT 81 ty81:=mt underlying81 type81
noncomputable def ty83:=mT t83 t83 false
theorem qt83:QT 83 ty83:=mt underlying83 type83
noncomputable def ty85:=mT t85 t85 false
theorem qt85:QT 85 ty85:=mt underlying85 type85
noncomputable def ty88:=mT t88 t88 true
theorem qt88:QT 88 ty88:=⟨underlying88,j3 type88,fun _=>ae⟩
noncomputable def ty89:=mT t89 t89 false
theorem qt89:QT 89 ty89:=mt underlying89 type89
noncomputable def ty93:=mT t93 t93 false
theorem qt93:QT 93 ty93:=mt underlying93 type93
noncomputable def ty95:=mT t95 t95 true
theorem qt95:QT 95 ty95:=⟨underlying95,j3 type95,fun _=>ae⟩
noncomputable def ty96:=mT t96 t96 false
theorem qt96:QT 96 ty96:=mt underlying96 type96
noncomputable def ty97:=mT t97 t96 false
theorem qt97:QT 97 ty97:=mt underlying97 type97
noncomputable def ty98:=mT t98 t98 false
theorem qt98:QT 98 ty98:=mt underlying98 type98
noncomputable def ty99:=mT t99 t98 false
theorem qt99:QT 99 ty99:=mt underlying99 type99
noncomputable def ty100:=mT t100 t100 false
theorem qt100:QT 100 ty100:=mt underlying100 type100
noncomputable def ty101:=mT t101 t100 true
theorem qt101:QT 101 ty101:=⟨underlying101,j3 type101,fun _=>ae⟩
noncomputable def ty103:=mT t103 t103 false
theorem qt103:QT 103 ty103:=mt underlying103 type103
noncomputable def ty105:=mT t105 t105 false
theorem qt105:QT 105 ty105:=mt underlying105 type105
noncomputable def ty106:=mT t106 t105 false
theorem qt106:QT 106 ty106:=mt underlying106 type106
noncomputable def ty107:=mT t107 t107 false
theorem qt107:QT 107 ty107:=mt underlying107 type107
noncomputable def ty108:=mT t108 t108 false
theorem qt108:QT 108 ty108:=mt underlying108 type108
noncomputable def ty112:=mT t112 t75 false
theorem qt112:QT 112 ty112:=mt underlying112 type112
noncomputable def ty114:=mT t114 t114 false
theorem qt114:QT 114 ty114:=mt underlying114 type114
noncomputable def ty131:=mT t131 t131 false
theorem qt131:QT 131 ty131:=mt underlying131 type131
noncomputable def ty133:=mT t133 t133 false
theorem qt133:QT 133 ty133:=mt underlying133 type133
noncomputable def ty135:=mT t135 t135 false
theorem qt135:QT 135 ty135:=mt underlying135 type135
noncomputable def ty136:=mT t136 t135 false
theorem qt136:QT 136 ty136:=mt underlying136 type136
noncomputable def ty137:=mT t137 t137 false
theorem qt137:QT 137 ty137:=mt underlying137 type137
noncomputable def ty142:=mT t142 t142 false
theorem qt142:QT 142 ty142:=mt underlying142 type142
noncomputable def ty143:=mT t143 t142 false
theorem qt143:QT 143 ty143:=mt underlying143 type143
noncomputable def ty145:=mT t145 t145 false
theorem qt145:QT 145 ty145:=mt underlying145 type145
noncomputable def ty148:=mT t148 t148 false
theorem qt148:QT 148 ty148:=mt underlying148 type148
noncomputable def ty150:=mT t150 t150 false
theorem qt150:QT 150 ty150:=mt underlying150 type150
noncomputable def ty151:=mT t151 t151 true
theorem qt151:QT 151 ty151:=⟨underlying151,j3 type151,fun _=>ae⟩
noncomputable def ty158:=mT t158 t158 false
theorem qt158:QT 158 ty158:=mt underlying158 type158
noncomputable def ty159:=mT t159 t159 false
theorem qt159:QT 159 ty159:=mt underlying159 type159
noncomputable def ty162:=mT t162 t162 false
theorem qt162:QT 162 ty162:=mt underlying162 type162
noncomputable def ty166:=mT t166 t166 false
theorem qt166:QT 166 ty166:=mt underlying166 type166
noncomputable def ty168:=mT t168 t168 false
theorem qt168:QT 168 ty168:=mt underlying168 type168
noncomputable def ty169:=mT t169 t169 false
theorem qt169:QT 169 ty169:=mt underlying169 type169
noncomputable def ty171:=mT t171 t171 false
theorem qt171:QT 171 ty171:=mt underlying171 type171
noncomputable def ty179:=mT t179 t179 false
theorem qt179:QT 179 ty179:=mt underlying179 type179
noncomputable def ty183:=mT t183 t183 false
theorem qt183:QT 183 ty183:=mt underlying183 type183
noncomputable def ty196:=mT t196 t196 false
theorem qt196:QT 196 ty196:=mt underlying196 type196
noncomputable def ty201:=mT t201 t201 false
theorem qt201:QT 201 ty201:=mt underlying201 type201
noncomputable def ty204:=mT t204 t204 false
theorem qt204:QT 204 ty204:=mt underlying204 type204
noncomputable def ty206:=mT t206 t206 false
theorem qt206:QT 206 ty206:=mt underlying206 type206
noncomputable def ty207:=mT t207 t207 false
theorem qt207:QT 207 ty207:=mt underlying207 type207
noncomputable def ty210:=mT t210 t210 false
theorem qt210:QT 210 ty210:=mt underlying210 type210
noncomputable def ty216:=mT t216 t216 false
theorem qt216:QT 216 ty216:=mt underlying216 type216
noncomputable def ty219:=mT t219 t219 false
theorem qt219:QT 219 ty219:=mt underlying219 type219
noncomputable def ty220:=mT t220 t219 false
theorem qt220:QT 220 ty220:=mt underlying220 type220
noncomputable def ty221:=mT t221 t221 false
theorem qt221:QT 221 ty221:=mt underlying221 type221
noncomputable def ty224:=mT t224 t224 false
theorem qt224:QT 224 ty224:=mt underlying224 type224
noncomputable def ty226:=mT t226 t226 false
theorem qt226:QT 226 ty226:=mt underlying226 type226
noncomputable def ty227:=mT t227 t226 false
theorem qt227:QT 227 ty227:=mt underlying227 type227
noncomputable def ty230:=mT t230 t230 false
theorem qt230:QT 230 ty230:=mt underlying230 type230
noncomputable def ty232:=mT t232 t232 false
theorem qt232:QT 232 ty232:=mt underlying232 type232
noncomputable def ty237:=mT t237 t237 true
theorem qt237:QT 237 ty237:=⟨underlying237,j3 type237,fun _=>ae⟩
noncomputable def ty238:=mT t238 t238 false
theorem qt238:QT 238 ty238:=mt underlying238 type238
noncomputable def ty243:=mT t243 t243 false
theorem qt243:QT 243 ty243:=mt underlying243 type243
noncomputable def ty258:=mT t258 t258 false
theorem qt258:QT 258 ty258:=mt underlying258 type258
noncomputable def ty261:=mT t261 t261 false
theorem qt261:QT 261 ty261:=mt underlying261 type261
noncomputable def ty265:=mT t265 t265 true
theorem qt265:QT 265 ty265:=⟨underlying265,j3 type265,fun _=>ae⟩
noncomputable def ty266:=mT t266 t266 false
theorem qt266:QT 266 ty266:=mt underlying266 type266
noncomputable def ty267:=mT t267 t267 false
theorem qt267:QT 267 ty267:=mt underlying267 type267
noncomputable def ty268:=mT t268 t267 false
theorem qt268:QT 268 ty268:=mt underlying268 type268
noncomputable def ty290:=mT t290 t290 false
theorem qt290:QT 290 ty290:=mt underlying290 type290
noncomputable def ty293:=mT t293 t293 false
theorem qt293:QT 293 ty293:=mt underlying293 type293
noncomputable def ty295:=mT t295 t3 true
theorem qt295:QT 295 ty295:=⟨underlying295,j3 type295,fun _=>ae⟩
noncomputable def ty296:=mT t296 t296 false
theorem qt296:QT 296 ty296:=mt underlying296 type296
noncomputable def ty302:=mT t302 t302 true
theorem qt302:QT 302 ty302:=⟨underlying302,j3 type302,fun _=>ae⟩
noncomputable def ty303:=mT t303 t303 false
theorem qt303:QT 303 ty303:=mt underlying303 type303
noncomputable def ty318:=mT t318 t318 false
theorem qt318:QT 318 ty318:=mt underlying318 type318
noncomputable def ty346:=mT t346 t346 false
theorem qt346:QT 346 ty346:=mt underlying346 type346
noncomputable def ty347:=mT t347 t347 false
theorem qt347:QT 347 ty347:=mt underlying347 type347
noncomputable def ty348:=mT t348 t347 false
theorem qt348:QT 348 ty348:=mt underlying348 type348
noncomputable def ty349:=mT t349 t5 false
theorem qt349:QT 349 ty349:=mt underlying349 type349
noncomputable def ty350:=mT t350 t5 false
theorem qt350:QT 350 ty350:=mt underlying350 type350
noncomputable def ty351:=mT t351 t351 false
theorem qt351:QT 351 ty351:=mt underlying351 type351
noncomputable def ty352:=mT t352 t21 false
theorem qt352:QT 352 ty352:=mt underlying352 type352
noncomputable def ty353:=mT t353 t21 false
theorem qt353:QT 353 ty353:=mt underlying353 type353
noncomputable def ty354:=mT t354 t354 false
theorem qt354:QT 354 ty354:=mt underlying354 type354
noncomputable def ty355:=mT t355 t354 false
theorem qt355:QT 355 ty355:=mt underlying355 type355
noncomputable def tt:Tr TI:=(.node (.node (.node .nil 0 ty0 (.node (lN 1 ty1) 2 ty2 .nil)) 3 ty3 .nil) 4 ty4 (.node (.node (.node (.node .nil 5 ty5 (.node (lN 6 ty6) 7 ty7 (lN 8 ty8))) 9 ty9 (.node (.node (.node (.node (lN 10 ty10) 12 ty12 (.node .nil 16 ty16 (lN 17 ty17))) 20 ty20 .nil) 21 ty21 .nil) 22 ty22 .nil)) 23 ty23 (.node (.node (.node (lN 24 ty24) 25 ty25 .nil) 28 ty28 (.node (.node .nil 29 ty29 (lN 31 ty31)) 32 ty32 (lN 34 ty34))) 40 ty40 (.node (.node (.node (lN 44 ty44) 51 ty51 .nil) 56 ty56 (.node (.node .nil 58 ty58 (lN 62 ty62)) 63 ty63 (.node .nil 64 ty64 (lN 65 ty65)))) 66 ty66 (.node (.node (.node .nil 68 ty68 (.node .nil 69 ty69 (lN 71 ty71))) 72 ty72 (lN 74 ty74)) 75 ty75 (.node (.node .nil 76 ty76 (lN 77 ty77)) 79 ty79 (.node (.node .nil 81 ty81 (.node .nil 83 ty83 (lN 85 ty85))) 88 ty88 (.node .nil 89 ty89 (lN 93 ty93)))))))) 95 ty95 (.node (.node (.node (.node (lN 96 ty96) 97 ty97 (lN 98 ty98)) 99 ty99 (lN 100 ty100)) 101 ty101 (.node (.node (.node (.node .nil 103 ty103 (lN 105 ty105)) 106 ty106 (.node .nil 107 ty107 (lN 108 ty108))) 112 ty112 (.node (lN 114 ty114) 131 ty131 (.node .nil 133 ty133 (lN 135 ty135)))) 136 ty136 (.node (.node (.node (.node .nil 137 ty137 (lN 142 ty142)) 143 ty143 (lN 145 ty145)) 148 ty148 (lN 150 ty150)) 151 ty151 (.node (.node .nil 158 ty158 (lN 159 ty159)) 162 ty162 (lN 166 ty166))))) 168 ty168 (.node (.node (.node (lN 169 ty169) 171 ty171 .nil) 179 ty179 (.node (.node (.node (lN 183 ty183) 196 ty196 (.node .nil 201 ty201 (lN 204 ty204))) 206 ty206 (.node (lN 207 ty207) 210 ty210 (.node .nil 216 ty216 (lN 219 ty219)))) 220 ty220 (.node (.node .nil 221 ty221 (.node (.node (lN 224 ty224) 226 ty226 .nil) 227 ty227 .nil)) 230 ty230 (lN 232 ty232)))) 237 ty237 (.node (.node (.node .nil 238 ty238 (.node .nil 243 ty243 (lN 258 ty258))) 261 ty261 (.node (lN 265 ty265) 266 ty266 (lN 267 ty267))) 268 ty268 (.node (.node (.node .nil 290 ty290 (lN 293 ty293)) 295 ty295 (lN 296 ty296)) 302 ty302 (.node (lN 303 ty303) 318 ty318 (.node (.node (lN 346 ty346) 347 ty347 (.node .nil 348 ty348 (lN 349 ty349))) 350 ty350 (.node (.node .nil 351 ty351 (lN 352 ty352)) 353 ty353 (.node .nil 354 ty354 (lN 355 ty355)))))))))))
theorem tt_all:AllT QT tt:=⟨⟨⟨tI,qt0,⟨(aL qt1),qt2,tI⟩⟩,qt3,tI⟩,qt4,⟨⟨⟨⟨tI,qt5,⟨(aL qt6),qt7,(aL qt8)⟩⟩,qt9,⟨⟨⟨⟨(aL qt10),qt12,⟨tI,qt16,(aL qt17)⟩⟩,qt20,tI⟩,qt21,tI⟩,qt22,tI⟩⟩,qt23,⟨⟨⟨(aL qt24),qt25,tI⟩,qt28,⟨⟨tI,qt29,(aL qt31)⟩,qt32,(aL qt34)⟩⟩,qt40,⟨⟨⟨(aL qt44),qt51,tI⟩,qt56,⟨⟨tI,qt58,(aL qt62)⟩,qt63,⟨tI,qt64,(aL qt65)⟩⟩⟩,qt66,⟨⟨⟨tI,qt68,⟨tI,qt69,(aL qt71)⟩⟩,qt72,(aL qt74)⟩,qt75,⟨⟨tI,qt76,(aL qt77)⟩,qt79,⟨⟨tI,qt81,⟨tI,qt83,(aL qt85)⟩⟩,qt88,⟨tI,qt89,(aL qt93)⟩⟩⟩⟩⟩⟩⟩,qt95,⟨⟨⟨⟨(aL qt96),qt97,(aL qt98)⟩,qt99,(aL qt100)⟩,qt101,⟨⟨⟨⟨tI,qt103,(aL qt105)⟩,qt106,⟨tI,qt107,(aL qt108)⟩⟩,qt112,⟨(aL qt114),qt131,⟨tI,qt133,(aL qt135)⟩⟩⟩,qt136,⟨⟨⟨⟨tI,qt137,(aL qt142)⟩,qt143,(aL qt145)⟩,qt148,(aL qt150)⟩,qt151,⟨⟨tI,qt158,(aL qt159)⟩,qt162,(aL qt166)⟩⟩⟩⟩,qt168,⟨⟨⟨(aL qt169),qt171,tI⟩,qt179,⟨⟨⟨(aL qt183),qt196,⟨tI,qt201,(aL qt204)⟩⟩,qt206,⟨(aL qt207),qt210,⟨tI,qt216,(aL qt219)⟩⟩⟩,qt220,⟨⟨tI,qt221,⟨⟨(aL qt224),qt226,tI⟩,qt227,tI⟩⟩,qt230,(aL qt232)⟩⟩⟩,qt237,⟨⟨⟨tI,qt238,⟨tI,qt243,(aL qt258)⟩⟩,qt261,⟨(aL qt265),qt266,(aL qt267)⟩⟩,qt268,⟨⟨⟨tI,qt290,(aL qt293)⟩,qt295,(aL qt296)⟩,qt302,⟨(aL qt303),qt318,⟨⟨(aL qt346),qt347,⟨tI,qt348,(aL qt349)⟩⟩,qt350,⟨⟨tI,qt351,(aL qt352)⟩,qt353,⟨tI,qt354,(aL qt355)⟩⟩⟩⟩⟩⟩⟩⟩⟩⟩
noncomputable def tab:Tab:=⟨fun t=>tt.get t⟩
theorem tab_ok:qH Tryz.prog tab:=⟨fun t i h=>AllT.mem tt_all (t,i) (Tr.get_mem h)⟩
theorem mixed:Tryz.prog.follows .mixedOrders=true:=ae
end
end Go.Lens.Tb
end
section
namespace Go.Lens
variable [Lz]
def bsO (l:Nb):ByteArray:=⟨⟨l⟩⟩
abbrev KV:=List (Nb×Value)
def mkEs:Nat->KV->List MapEntry
 | _,[]=>[]
 | i,(k,v)::l=>{ key:=.string (bsO k),val:=v,born:=i }::mkEs (i+1) l
def mapO (kv:KV):Obj:=.map (mkEs 0 kv).toArray kv.length
theorem bsO_inj {a b:Nb}:bsO a=bsO b↔a=b:=by grind [bsO]
section
variable {P:Program} {Y:Tab} [qH P Y] {nb:Nat} {s:St} {o:Oper} {val:DV} {m:Na} {rd:List Nat}
theorem hasM_none {ms:Na} {h:Nat} (e:jH ms h=false):qr ms h=none:=by
 unfold jH at e
 grind
theorem ev1_agree {σ:St} {xs:List Operand} (h:∀ t∈tmpsOf xs,jJ σ.tm t=jJ s.tm t) {x:Operand} (hx:x∈xs):ev1 σ x=ev1 s x:=by
 unfold ev1
 cases x with
 | tmp t=>simp only[evS];rw[h t (tmpsOf_mem hx)]
 | _=>rfl
theorem Zq {G:Gh} {a:Act} {w:World} (I:Inv G s.vw a w) (x:Operand):qt G (G.rd w) (ev1 s x) (a.eval x):=RelDV_evD (kG I x)
theorem jS.of (H:∀ (σ:St) (G:Gh) (a:Act) (w:World),(∀ x∈o.op.operands.toList,qt G (G.rd w) (ev1 s x) (a.eval x))->(∀ h,(h∈rd\/h∈m.map (·.1))->qr σ.ms h=qr s.ms h)->Inv G σ.vw a w->
  ∃ r w' G',((execOp a.eval o).run P w=.ok (.value r) w'\/(execOp a.eval o).run P w=.ok .skip w'/\r=undef)/\Stepped G w (qr σ.ms) val m G' w' r):jS P s o val m rd:=by
 intro σ G a w next Q h1 h2 I hn
 obtain⟨r,w',G',hrun,S⟩:=H σ G a w (fun x hx=>by rw[<-ev1_agree h1 hx];exact Zq I x) h2 I
 have:=hn r w' G' S
 have hnd:∀ c,o.op≠.defer c:=by
  rcases hrun with hrun|⟨hrun,_⟩
  ·exact notDefer hrun ao
  exact notDefer hrun ao
 refine wpR_of ?_ hnd
 unfold Oper.wp
 rcases hrun with hrun|⟨hrun,rfl⟩
 ·rw[hrun];exact this
 rw[hrun];exact this
variable {dst:Option Tmp} {ty:TypeId} {pos:String} {af:Array Edge} {gd:Option (Nat×Bool)} {t:TypeId} {x y z:Operand}
theorem Gh.qT (G:Gh) (h:Nat):G.turn h (G.ρ h)=G:=by
 unfold Gh.turn
 congr
 grind
end
theorem run_pick {P:Program} {w:World} {n:Nat} (hn:0<n):∃ j d,(choose (.mapNext n)).run P w=.ok j { w with drawn:=d }/\j<n/\w.drawn<=d:=by
 rw[run_choose]
 by_cases hf:(Question.mapNext n).forced=true
 ·exact⟨0,w.drawn,by rw[WK hf],hn,zB _⟩
 exact⟨w.tape w.drawn (.mapNext n)%n,w.drawn+1,by rw[WJ hf];rfl,Wu _ hn,Wc _⟩
def SubL (ms:Na):Na->Prop
 | []=>True
 | p::l=>qr ms p.1=some p.2/\SubL ms l
theorem SubL.look {ms:Na}:∀ {l:Na},SubL ms l->∀ {h:Nat} {o:MO},qr l h=some o->qr ms h=some o/\h∈l.map (·.1)
 | [],_,h,o,e=>by cases e
 | p::l,H,h,o,e=>by
  rw[qy] at e
  split at e
  ·rename_i hq
   cases e
   rw[<-hq];exact⟨H.1,by simp⟩
  have:=H.2.look e
  exact⟨this.1,by simp only[zy,zF];exact .inr this.2⟩
section
variable {P:Program} {Y:Tab} [qH P Y] {nb:Nat} {s:St} {dst:Option Tmp} {ty u:TypeId} {pos:String} {af:Array Edge} {gd:Option (Nat×Bool)} {t:TypeId} {x y z:Operand}
theorem B.jx {f:Operand} {args:Array Operand} {ats:Array TypeId} {fid:FuncId} {first caps ds:List DV} {val:DV} {l out:Na} (H:qA P fid ds (qr l) val out) (hf:tgtX (ev1 s f)=some (fid,first,caps))
  (hds:first++args.toList.map (ev1 s)++caps=ds) (hsub:SubL s.ms l) (hcl:q7 l=true) (hnew:out.all (fun p=>jH l p.1||!jH s.ms p.1)=true):Body P Y nb s ⟨dst,.call ⟨.value f,args,ats⟩,ty,pos,af,gd⟩ val out (l.map (·.1)):=by
 refine .inr fun σ G a w next Q h1 h2 I hn=>?_
 have hops:(Op.call ⟨.value f,args,ats⟩).operands.toList=f::args.toList:=call_ops
 rw[hops] at h1
 have hev:∀ z∈f::args.toList,ev1 σ z=ev1 s z:=fun z hz=>ev1_agree h1 hz
 have hF:qt G (G.rd w) (ev1 s f) (a.eval f):=by rw[<-hev f ao];exact Zq I f
 obtain⟨vx,vy,ef,g1,g2⟩:=tgtX_sound hf hF
 have hargs:qz G (G.rd w) (args.toList.map (ev1 s)) (args.toList.map a.eval):=by
  rw[<-List.map_congr_left (f:=ev1 σ) (g:=ev1 s) (fun z hz=>hev z (by simp[hz]))]
  have:∀ l:List Operand,qz G (G.rd w) (l.map (ev1 σ)) (l.map a.eval):=by
   intro l
   induction l with
   | nil=>simp[qz]
   | cons z l ih=>simp only[zy,qz];exact⟨_,_,rfl,Zq I z,ih⟩
  exact this _
 have hall:qz G (G.rd w) ds (vx++args.map a.eval++vy).toList:=by
  rw[<-hds]
  simp only[Xk,Array.toList_map]
  exact (g1.append hargs).append g2
 have HL:qA P fid ds (qr σ.ms) val out:=by
  refine H.frame (fun h o e=>?_) (fun k o h e hh=>ko hcl k o e h hh) (fun h hh e=>?_)
  ·obtain⟨e1,e2⟩:=hsub.look e
   rw[h2 h (.inl e2)];exact e1
  rw[h2 h (.inr hh)];exact allHas hnew h hh e
 have hexec:(execOp a.eval ⟨dst,.call ⟨.value f,args,ats⟩,ty,pos,af,gd⟩).run P w=(callFunc fid (vx++args.map a.eval++vy)).run P w:=by simp only[execOp,resolve,ef,Deferred.ofValue,qp,qq,qo,invoke]
 refine wpR_of ?_ ao
 unfold Oper.wp
 rcases HL.call G w _ I.mem hall with ⟨he,hcalls⟩|⟨r,w',he,G',S⟩
 ·rw[hexec,he,Oper.upon_enter]
  refine Calls.mono hcalls ?_
  grind
 rw[hexec,he]
 exact hn r w' G' S
theorem ev1_refs {σ:St} {G:Gh} {a:Act} {w:World} (I:Inv G σ.vw a w) (x:Operand):∀ h∈(ev1 σ x).refs,∃ o,qr σ.ms h=some o:=by
 intro h hh
 unfold ev1 at hh
 rw[refs_evD] at hh
 cases x with
 | tmp t=>exact I.refsT t h hh
 | const v=>simp only[evS,ZR] at hh;cases hh
 | global g=>simp only[evS,DV.refs] at hh;cases hh
 | func f=>simp only[evS,DV.refs] at hh;cases hh
end
section
variable {P:Program} {Y:Tab} [qH P Y] {nb:Nat} {s:St} {dst:Option Tmp} {ty u:TypeId} {pos:String} {af:Array Edge} {gd:Option (Nat×Bool)} {t:TypeId} {x y z:Operand}
theorem B.makeSl {α:Type} {enc:α->List PV} {z0:α} {n m d h sz bs:Nat} {mi:Int} {e:TypeId} {i:TypeInfo} {zv:Value} (hx:ev1 s x=lit (.int .i64 (n:Int))) (hy:ev1 s y=lit (.int .i64 mi)) (hmi:mi=(m:Int)) (und:Y.underlying t=some (.slice e)) (hi:Y.info? e=some i)
  (hz:i.zero=some zv) (hc:Z7 zv.cells.toList=some (enc z0)) (hq:(Nat.blt 0 i.size&&Nat.beq zv.cells.size i.size&&Nat.beq i.size sz)=true) (hb:i.bytes=bs)
  (hle:n<=m/\bs*m<=281474976710656/\m<=9223372036854775807) (hh:nameOf nb s.ms (some d)=h) (hm:jH s.ms h=false) :
  Body P Y nb s ⟨some d,.makeSlice t x y,ty,pos,af,gd⟩ (.aref h 0) [(h,.arr 0 sz e ((List.replicate n z0).map enc))] []:=by
 subst hb
 simp only[zj,Wq,Ws] at hq
 obtain⟨⟨k1,k2⟩,rfl⟩:=hq
 refine B.of0 (val0:=.aref h 0) (m0:=[(h,.arr 0 i.size e ((List.replicate n z0).map enc))]) (lo:=0) (nm:=h) (kn P) ?_ ?_ (Frz.refl _ _ _) ?_
 ·intro q hq
  have:q=x\/q=y:=by simpa [Op.operands] using hq
  rcases this with rfl|rfl
  ·rw[hx];rfl
  rw[hy];rfl
 ·have e1:evU (tmpsOf [x,y]) s x=_:=(qR ao).trans hx
  have e2:evU (tmpsOf [x,y]) s y=_:=(qR ao).trans hy
  have hv:effV Y h (some d) (.makeSlice t x y) (evU (tmpsOf [x,y]) s) (qr [])=makeSliceV Y h t (evU (tmpsOf [x,y]) s x) (evU (tmpsOf [x,y]) s y) (qr []):=rfl
  show (match effV Y h (some d) (.makeSlice t x y) (evU (tmpsOf [x,y]) s) (qr []) with|some ⟨true,v,m⟩=>some (v,m)|_=>none)=_
  rw[hv,e1,e2,hmi]
  have hl:(qr ([]:Na) h).isNone=true:=rfl
  have hg:decide (0<=(n:Int)/\(n:Int)<=(m:Int)/\(i.bytes:Int)*(m:Int)<=281474976710656/\(m:Int)<=9223372036854775807)=true:=by grind
  simp only[makeSliceV,lit,und,hi,hz,hc,hl,k1,k2,Wp,Bool.and_self,ql,hg,zT,XC]
 simp[hm]
theorem ZZ.ctx2 {G:Gh} {w:World} {look:Nat->Option MO} (M:ZZ G look w) {ev:Operand->DV} {ρ:Operand->Value} (h1:∀ x,qt G (G.rd w) (ev x) (ρ x)) (h2:∀ x,∀ h∈(ev x).refs,∃ o,look h=some o):Ctx G w ρ ev look look:=by
 refine⟨⟨h1,M.ms,M.readable.1,M.readable.2⟩,fun _ _ h=>h,?_,M.fresh⟩
 rintro h (⟨x,hx⟩|⟨k,o,ho,hh⟩)
 ·exact h2 x h hx
 exact M.refsM k o h ho hh
end
def dn:DV->Option PV
 | .nils=>some (.slice [])
 | .pv p=>some p
 | _=>none
def dnL:List DV->Option (List PV)
 | []=>some []
 | d::ds=>match dn d,dnL ds with
  | some p,some ps=>some (p::ps)
  | _,_=>none
theorem dn_ok {G:Gh} {R:Rd} {d:DV} {p:PV} {v:Value} (h:dn d=some p) (hv:qt G R d v):qI R p v:=by
 cases d with
 | nils=>
  cases h
  grind [qt,qI]
 | pv q=>cases h;simpa only[qt] using hv
 | _=>cases h
theorem dnL_ok {G:Gh} {R:Rd}:∀ {ds:List DV} {ps:List PV} {vs:List Value},dnL ds=some ps->qz G R ds vs->qw R ps vs
 | [],ps,vs,h,hv=>by
  cases h
  simpa only[qz,qw] using hv
 | d::ds,ps,vs,h,hv=>by
  simp only[dnL] at h
  split at h
  ·rename_i p q h1 h2
   cases h
   simp only[qz] at hv
   obtain⟨v,vs',rfl,k1,k2⟩:=hv
   simp only[qw]
   exact⟨v,vs',rfl,dn_ok h1 k1,dnL_ok h2 k2⟩
  cases h
theorem Frz.aggN (l:Na) {ds:List DV} {ps:List PV} (hd:dnL ds=some ps):Frz l (.agg ds) [] (.pv (.agg ps)) []:=by
 intro G w G1 w1 r M S
 have hv:=S.hval
 simp only[qt] at hv
 obtain⟨vs,rfl,ho,hvs⟩:=hv
 refine⟨G1,{ S with hval:=?_,refs:=by simp[DV.refs] }⟩
 simp only[qt,qI]
 exact⟨vs,rfl,ho,dnL_ok hd hvs⟩
theorem relDVs_pv {G:Gh} {R:Rd}:∀ {ps:List PV} {vs:List Value},qw R ps vs->qz G R (ps.map .pv) vs
 | [],vs,h=>by simpa only[qz,qw,zX] using h
 | p::ps,vs,h=>by
  simp only[qw] at h
  obtain⟨v,vs',rfl,k1,k2⟩:=h
  simp only[qz,zy]
  exact⟨v,vs',rfl,by simpa only[qt] using k1,relDVs_pv k2⟩
theorem Frz.boxN (l:Na) {h:Nat} {T:TypeId} {ds:List DV} {ps:List PV} (hd:dnL ds=some ps):Frz l (.bref h 0) [(h,.box T ds)] (.bref h 0) [(h,.box T (ps.map .pv))]:=by
 intro G w G1 w1 r M S
 have hb:=S.hms h _ (by simp:(h,MO.box T ds)∈[(h,MO.box T ds)])
 refine⟨G1,{ S with hms:=?_,old:=by simpa using S.old,own:=by simpa using S.own,refs:=by simpa using S.refs,refsM:=?_ }⟩
 ·intro k o hk
  simp only[zg,zx] at hk
  obtain⟨rfl,rfl⟩:=hk
  simp only[qW] at hb ⊢
  obtain⟨e1,b,c,e2,e3,e4,e5,e6⟩:=hb
  exact⟨e1,b,c,e2,e3,e4,e5,relDVs_pv (dnL_ok hd e6)⟩
 grind [List.mem_singleton,Prod.mk.injEq,MO.refs,refsL_pv]
def nz:DV->DV
 | .nils=>.pv (.slice [])
 | d=>d
theorem nz_ok {G:Gh} {R:Rd} {d:DV} {v:Value} (h:qt G R d v):qt G R (nz d) v:=by
 unfold nz
 split
 ·simp only[qt];exact dn_ok Z h
 exact h
theorem nz_refs (d:DV):(nz d).refs=d.refs:=by
 unfold nz
 split
 ·simp[DV.refs]
 rfl
theorem nzL_ok {G:Gh} {R:Rd}:∀ {ds:List DV} {vs:List Value},qz G R ds vs->qz G R (ds.map nz) vs
 | [],_,h=>h
 | d::ds,vs,h=>by
  simp only[qz] at h
  obtain⟨v,vs',rfl,k1,k2⟩:=h
  simp only[qz,zy]
  exact⟨v,vs',rfl,nz_ok k1,nzL_ok k2⟩
theorem nzL_refs:∀ ds:List DV,DV.qL (ds.map nz)=DV.qL ds
 | []=>rfl
 | d::ds=>by simp only[zy,DV.qL,nz_refs,nzL_refs ds]
theorem qA.nz {P:Program} {f:FuncId} {ds ds1:List DV} {look:Nat->Option MO} {val:DV} {ms:Na} (H:qA P f ds1 look val ms) (e:ds.map Lens.nz=ds1):qA P f ds look val ms:=by
 subst e
 exact⟨fun k hk=>H.refs k (by rw[nzL_refs];exact hk),fun G w vs M hv=>H.call G w vs M (nzL_ok hv)⟩
def PostL (Y:Tab) (F:FnI) (lo:Nat) (l:Na) (val:DV) (out:Na) (e:Exit) (s:St):Prop:=(e=.normal\/e=.ret)/\kY Y F lo l s=some (val,out)
theorem ZG {Y:Tab} {F:FnI} {lo:Nat} {l:Na} {val val0:DV} {out out0:Na} {s:St} {e:Exit} (he:e=.normal\/e=.ret) (h:kY Y F lo l s=some (val0,out0)) (hv:val0=val) (ho:out0=out):PostL Y F lo l val out e s:=⟨he,by rw[h,hv,ho]⟩
theorem callOk_ofL {P:Program} {Y:Tab} [qH P Y] {F:FnI} {f:FuncId} {fn:Func} {c:Code} (lo:Nat) (l:Na) (hf:P.funcs[f]? =some fn) (hb:fn.body=some c) (hn:fn.ntmps=F.n) (hr:fn.results=F.res) (he:∀ args w,(callFunc f args).run P w=.ok (.enter f args) w)
  {ds:List DV} {val:DV} {out:Na} (hl:ds.length<=F.n) (hrf:(DV.qL ds).all (jH l)=true) (hnb:l.all (fun p=>Nat.blt p.1 lo)=true)
  (h:TK P F.n lo (PostL Y F lo l val out) c [] ⟨zipT 0 ds,l⟩):qA P f ds (qr l) val out:=by
 refine CallR.ok (CallR.of (Y:=Y) (F:=F) (lo:=lo) hf hb hn hr he hl (fun h hh=>kj.1 (zr.1 hrf h hh)) (fun h o e=>by have:=zr.1 hnb _ (jl e);simpa using this) (T.mono h ?_))
 rintro e s' ⟨h1,h2⟩
 grind
end Go.Lens
end
