/- A part of the proof of PupilDiscCardSaid, without conditions. -/
import Derived.Test.YthmgaldefkaglaaGreatDoorP1
import Derived.Lib.UnsafeStr
import Derived.Lib.Builder
import Derived.Lib.ConvBytes
import Derived.Laws.LoneSync
import Derived.Laws.Cover3
import Derived.LoopN
import Derived.Scope
import Derived.Orders
import Derived.Laws.Externs
import Derived.Lib.Bytealg
import Derived.Lib.MakeNoZero
import Derived.Lib.ItoaNum
import Derived.Lib.LaidTab
import Derived.RangeFuncRecord
import Derived.RangeFuncLeaves
import Derived.OrdersIn
import Derived.LoopNIn
set_option linter.unusedVariables false
set_option linter.unusedSimpArgs false
set_option linter.unusedSectionVars false
set_option maxHeartbeats 4000000
section
namespace Go.Lens
variable [Lz]
section
variable {P:Program} {Y:Tab} [qM P Y] {G:Gh} {w:World} {ρ:Operand->Value} {ev:Operand->DV} {look fl:Nat->Option MO}
theorem stepped_coolW {fl:Nat->Option MO} (hsee:∀ b h,G.γ b=some h->b<w.heap.size) (hr0:∀ b o v,b<G.base->G.R0.cell b o=some v->G.γ b=none/\w.cell? ⟨b,o,none⟩=some v) (hr0m:∀ r es,r<G.base->G.R0.map r=some es->G.γ r=none/\j5 w r=some es)
  {h:Nat} {o:MO} {val:DV} {r:Value} {w':World} (hos:w'.os=w.os) (htape:w'.tape=w.tape) (hout:w'.output=w.output) (hsize:w'.heap.size=w.heap.size)
  (hcell:∀ b o,w'.cell? ⟨b,o,none⟩=w.cell? ⟨b,o,none⟩) (hmap:∀ b,j5 w' b=j5 w b) (hblk:∀ b,G.γ b≠some h->w'.heap[b]? =w.heap[b]?)
  (hval:qx (G.Zj w h) ((G.Zj w h).rd w') val r) (hvr:val.refs=[]) (hm:qY (G.Zj w h) w' h o) (hr:o.refs=[]) (hdr:Lz.D=true->w.drawn<=w'.drawn:=by intro _;first|exact zC _|(unfold World.freeze;split<;>exact zC _)):Stepped G w fl val [(h,o)] (G.Zj w h) w' r:=by
 have L:Later G w (G.Zj w h) w':=by
  refine⟨rfl,⟨fun b o v hv=>?_,fun r es hr=>?_⟩,fun b o v _ hv=>?_,fun r es _ hr=>?_,hos,htape,hout,Nat.le_of_eq hsize.symm,fun b _ hg=>⟨hblk b ay,?_⟩,hdr⟩
  ·simp only[Gh.Zj]
   split
   ·rename_i hg
    have:=(hr0 b o v hg.1 hv).1;rw[hg.2] at this;cases this
   exact hv
  ·simp only[Gh.Zj]
   split
   ·rename_i hg
    have:=(hr0m r es hg.1 hr).1;rw[hg.2] at this;cases this
   exact hr
  ·simp only[Gh.Zj] at hv
   split at hv
   ·rename_i hg;exact .inr aI
   exact .inl hv
  ·simp only[Gh.Zj] at hr
   split at hr
   ·rename_i hg;exact .inr aI
   exact .inl hr
  simp only[Gh.Zj];rw[if_neg ay];exact hg
 refine⟨L,hval,fun k o' hm'=>?_,fun k o' _=>.inl Z,fun k hh=>⟨rfl,fun b hb=>⟨?_,?_⟩⟩,fun b k hb=>?_,fun b k hb=>?_,by rw[hvr];simp,fun k o' hk' k2 hh=>?_,fun b k hb=>?_,fun b o v hb hv=>?_,fun b es hb hv=>?_⟩
 ·simp only[zg,zz] at hm'
  obtain⟨rfl,rfl⟩:=hm'
  exact hm
 ·simp only[zA,z6,zg] at hh
  simp only[Gh.Zj]
  rw[if_neg aA];exact hb
 ·simp only[zA,z6,zg] at hh
  exact hblk b aA
 ·simp only[Gh.Zj] at hb
  split at hb
  ·cases hb
  rw[hsize];exact hsee b k hb
 ·simp only[Gh.Zj] at hb
  split at hb
  ·cases hb
  exact .inr hb
 ·simp only[zg,zz] at hk'
  obtain⟨rfl,rfl⟩:=hk'
  rw[hr] at hh;cases hh
 ·simp only[Gh.Zj] at hb
  split at hb
  ·cases hb
  exact .inl hb
 ·simp only[Gh.Zj] at hv ⊢
  split at hv
  ·rename_i hg;exact .inr ⟨by rw[if_pos hg.2],by rw[hcell];exact hv⟩
  exact .inl hv
 simp only[Gh.Zj] at hv ⊢
 split at hv
 ·rename_i hg;exact .inr ⟨by rw[if_pos hg.2],by rw[hmap];exact hv⟩
 exact .inl hv
def usdQ (look:Nat->Option MO) (x:DV):Option (Bool×DV):=
 match x with
 | .nils=>some (true,lit (.pointer none))
 | .aref h v=>match look h with
  | some (.arr v' _ _ (_::_))=>if v=v' then some (true,.eref h v 0 0) else none
  | _=>none
 | _=>none
theorem usdQ_sound (S:Sees G w ρ ev look) {ts:Array TypeId} {ty:TypeId} {a d:DV} {u:Value} (h:usdQ look a=some (true,d)) (hu:qx G (G.rd w) a u) :
  ∃ r,(Builtin.unsafeSliceData_ ts ty #[u]).run P w=.ok r w/\qx G (G.rd w) d r:=by
 unfold usdQ at h
 split at h
 ·cases h
  simp only[qx] at hu
  subst hu
  exact⟨_,Lib.run_unsafeSliceData_nil w ts ty 0 0,qL rfl⟩
 ·rename_i hh v
  split at h
  ·rename_i v' sz T e es hl
   split at h
   ·rename_i hq
    subst hq
    cases h
    obtain⟨k1,k2,k3,k4,k5,k6,k7⟩:=S.look _ _ hl
    simp only[qx] at hu
    have hv:=hu.2 k2
    subst hv
    simp only[zb] at k5
    rcases k7 with ⟨e1,e2⟩|⟨b,c,e1,_⟩
    ·omega
    rw[e1]
    refine⟨_,Lib.run_unsafeSliceData_row w ts ty ⟨b,0,none⟩ _ _ aa,?_⟩
    simp only[qx]
    exact⟨hu.1,fun _=>⟨b,0,e1,by simp⟩⟩
   cases h
  cases h
 cases h
theorem usdQ_refs {x r:DV} {s:Bool} (h:usdQ look x=some (s,r)):∀ k∈r.refs,k∈x.refs:=by
 intro k hk
 unfold usdQ at h
 split at h
 ·cases h;simp[lit,DV.refs] at hk
 ·split at h
  ·split at h
   ·cases h;simpa [DV.refs] using hk
   cases h
  cases h
 cases h
def bytesOf:List (List PV)->Option (List UInt8)
 | []=>some []
 | [.lit (.int .u8 (.ofNat n))]::l=>bif Nat.blt n 256 then (bytesOf l).map (UInt8.ofNat n::·) else none
 | _=>none
theorem bytesOf_sound {R:Rd}:∀ {es:List (List PV)} {l:List UInt8} {vs:List Value},bytesOf es=some l->qy R es.flatten vs->vs=l.map fun b=>Value.int .u8 b.toNat
 | [],l,vs,h,H=>by
  simp only[bytesOf] at h
  cases h
  simp only[List.flatten_nil,qy] at H
  subst H;rfl
 | e::es,l,vs,h,H=>by
  unfold bytesOf at h
  split at h
  ·rename_i heq;cases heq
  ·rename_i n l' heq
   cases heq
   cases hb:Nat.blt n 256 with
   | false=>rw[hb] at h;cases h
   | true=>
    rw[hb] at h
    simp only[cond_true] at h
    obtain⟨l2,h2,rfl⟩:=Option.map_eq_some_iff.1 h
    simp only[List.flatten_cons,List.singleton_append,qy,qN] at H
    obtain⟨v,vs',rfl,⟨rfl,_⟩,H⟩:=H
    have:=bytesOf_sound h2 H
    subst this
    have hn:n<256:=by simpa using hb
    have:((UInt8.ofNat n).toNat:Int)=(n:Int):=by
     simp[Nat.mod_eq_of_lt hn]
    simp only[zA,this]
    rfl
  cases h
def ustrV (Y:Tab) (pt:TypeId) (p n:DV) (look:Nat->Option MO):Option Out:=
 match p,n with
 | .eref h v 0 0,.pv (.lit (.int .i64 k))=>match look h with
  | some (.arr v' 1 T es)=>match Y.underlying pt with
   | some (.pointer e)=>match szT Y e,bytesOf es with
    | some 1,some l=>if v=v'/\T=e/\k=es.length/\l≠[]/\l.length=es.length then some ⟨true,lit (.string ⟨l.toArray⟩),[(h,.farr v es)]⟩ else none
    | _,_=>none
   | _=>none
  | _=>none
 | .pv (.lit (.pointer none)),.pv (.lit (.int .i64 0))=>some ⟨true,lit (.string .empty),[]⟩
 | _,_=>none
theorem freeze_facts (w:World) {b n:Nat} {c:Array Value} {T:TypeId} (hb:w.heap[b]? =some (.cells c T (0,0))) :
  (w.freeze ⟨b,0,none⟩ n).os=w.os/\(w.freeze ⟨b,0,none⟩ n).tape=w.tape/\(w.freeze ⟨b,0,none⟩ n).output=w.output/\(w.freeze ⟨b,0,none⟩ n).heap.size=w.heap.size/\
  (∀ b' o,(w.freeze ⟨b,0,none⟩ n).cell? ⟨b',o,none⟩=w.cell? ⟨b',o,none⟩)/\(∀ b',j5 (w.freeze ⟨b,0,none⟩ n) b'=j5 w b')/\(∀ b',b'≠b->(w.freeze ⟨b,0,none⟩ n).heap[b']? =w.heap[b']?):=by
 unfold World.freeze
 split
 ·exact⟨rfl,rfl,rfl,rfl,fun _ _=>rfl,fun _=>rfl,fun _ _=>rfl⟩
 refine⟨rfl,rfl,rfl,by simp,fun b' o=>?_,fun b'=>?_,fun b' hb'=>?_⟩
 ·simp only[World.cell?,Array.getElem?_modify]
  by_cases e:b=b'
  ·subst e;simp[hb]
  simp[e]
 ·simp only[j5,Array.getElem?_modify]
  by_cases e:b=b'
  ·subst e;simp[hb]
  simp[e]
 simp only[Array.getElem?_modify]
 rw[if_neg (fun e=>hb' e.symm)]
theorem ustrV_sound (C:Ctx G w ρ ev look fl) (hr0:∀ b o v,b<G.base->G.R0.cell b o=some v->G.γ b=none/\w.cell? ⟨b,o,none⟩=some v) (hr0m:∀ r es,r<G.base->G.R0.map r=some es->G.γ r=none/\j5 w r=some es)
  {pt it ty:TypeId} {p n:Operand} {out:Out} (h:ustrV Y pt (ev p) (ev n) look=some out) :
  ∃ r w' G',(Builtin.unsafeString_ #[pt,it] ty #[ρ p,ρ n]).run P w=.ok r w'/\Stepped G w fl out.val out.ms G' w' r:=by
 unfold ustrV at h
 split at h
 ·rename_i hh v k hp hn
  split at h
  ·rename_i v' T es hl
   split at h
   ·rename_i e hpt
    split at h
    ·rename_i l hsz hb
     split at h
     ·rename_i hq
      obtain⟨rfl,rfl,rfl,h0,hll⟩:=hq
      cases h
      obtain⟨k1,k2,k3,k4,k5,k6,k7⟩:=C.sees.look _ _ hl
      have hP:=C.sees.ev p
      rw[hp] at hP
      simp only[qx] at hP
      obtain⟨b,off,e1,hv⟩:=hP.2 k2
      have hN:=C.sees.ev n
      rw[hn] at hN
      have hN':=(qA hN).1
      have hpos:0<es.length:=by rw[<-hll];exact List.length_pos_iff.2 h0
      rcases k7 with ⟨e1',e2⟩|⟨b',c,e1',e2,e3,e4,e5,e6,e7⟩
      ·rw[e1] at e1';cases e1'
      rw[e1] at e1'
      simp only[zh,Addr.mk.injEq,and_true] at e1'
      obtain⟨rfl,rfl⟩:=e1'
      simp only[Nat.mul_one] at e5 e6 e7
      have hcl:=bytesOf_sound hb e7
      have hcell:∀ j x,l[j]? =some x->w.cell? ((⟨b,0,none⟩:Addr).add j)=some (.int .u8 x.toNat):=by
       intro j x hj
       rw[Addr.add_lit,Nat.zero_add,World.cell?_of_heap e3]
       have h1:(c.toList.take es.length)[j]? =some (.int .u8 x.toNat):=by rw[hcl];simp[hj]
       rw[qn] at h1
       split at h1
       ·simpa using h1
       cases h1
      have hshape:w.shape? b=some (T,c.size):=by simp[World.shape?,e3]
      have hcells:P.cellsOf T=1:=by
       unfold szT at hsz
       cases hi:Y.info? T with
       | none=>rw[hi] at hsz;cases hsz
       | some i=>
        rw[hi] at hsz
        simp only[qf,zh] at hsz
        simp[Program.cellsOf,qM.inf P hi,hsz]
      have hc63:es.length<=9223372036854775807:=by
       have:=maxLen_eq;omega
      have hr:=Lib.run_unsafeString_row (P:=P) w pt it ty T (qM.und P hpt) hcells b c.size hshape l h0 aa aa hcell
      obtain⟨f1,f2,f3,f4,f5,f6,f7⟩:=freeze_facts w (n:=l.length) e3
      have hρp:ρ p=.pointer (some ⟨b,0,none⟩):=by rw[hv];simp
      have hρn:ρ n=.int .i64 l.length:=by rw[hN',hll]
      refine⟨_,_,_,by rw[hρp,hρn];exact hr,stepped_coolW C.cfresh hr0 hr0m f1 f2 f3 f4 f5 f6 (fun b'' hb''=>f7 b'' (fun e=>hb'' aB)) (qL Z) aK ?_ rfl⟩
      have rdc:∀ j v,c[j]? =some v->((G.Zj w hh).rd (w.freeze ⟨b,0,none⟩ l.length)).cell b j=some v:=by
       intro j v hj
       have hcell:w.cell? ⟨b,j,none⟩=some v:=by rw[World.cell?_of_heap e3];exact hj
       have hbase:(G.Zj w hh).base=G.base:=rfl
       simp only[Gh.rd,hbase]
       by_cases hlt:b<G.base
       ·rw[if_pos hlt]
        simp only[Gh.Zj,hlt,e2,true_and,qp]
        exact hcell
       rw[if_neg hlt,if_pos (by simp only[Gh.Zj,e2,qp]),f5]
       exact hcell
      have L:(G.rd w).Le ((G.Zj w hh).rd (w.freeze ⟨b,0,none⟩ l.length)):=by
       have S:=stepped_coolW (fl:=fl) (h:=hh) (o:=.gone) (val:=.dead) (r:=undef) C.cfresh hr0 hr0m f1 f2 f3 f4 f5 f6 (fun b'' hb''=>f7 b'' (fun e=>hb'' aB)) aD ak trivial rfl
       exact S.later.rd
      refine⟨k1,k2,k4,k5,.inr ⟨b,0,1,e1,k3,qT.mk k6 (qy.mono L _ _ e7) e6 (fun j v hj=>?_)⟩⟩
      rw[qn] at hj
      split at hj
      ·rw[Nat.zero_add];exact rdc j v an
      cases hj
     cases h
    cases h
   cases h
  cases h
 ·rename_i hp hn
  cases h
  have hP:=C.sees.ev p
  rw[hp] at hP
  have hN:=C.sees.ev n
  rw[hn] at hN
  refine⟨.string .empty,w,G,?_,qH C (qL Z) aK⟩
  rw[(qA hP).1,(qA hN).1]
  exact Lib.run_unsafeString_none w pt it ty none
 cases h
theorem liesAt_self {e:TypeId} (hc:P.cellsOf e≠0) (count n:Nat) (hn:n<=count):liesAt P P.depth e count 0 e n=true:=by
 have hd:P.depth=(2*(P.types.size+Made.depth)+1)+1:=rfl
 rw[hd]
 simp only[liesAt,Bool.or_eq_true]
 left
 rw[hd]
 simp[rowAt,hc,hn,sameLayout]
def convPQ (Y:Tab) (s t:TypeId) (look:Nat->Option MO) (x:DV):Option (Bool×DV):=
 match x with
 | .bref h 0=>match look h with
  | some (.box T ds)=>match Y.underlying s,Y.underlying t with
   | some (.pointer e),some .unsafePointer=>match szT Y e with
    | some (_+1)=>some (decide (0<ds.length),.bref h 0)
    | _=>none
   | some .unsafePointer,some (.pointer e)=>match szT Y e with
    | some (k+1)=>if e=T/\ds.length=k+1 then some (true,.bref h 0) else none
    | _=>none
   | _,_=>none
  | _=>none
 | _=>none
theorem convPQ_sound (S:Sees G w ρ ev look) {s t:TypeId} {a d:DV} {u:Value} (h:convPQ Y s t look a=some (true,d)) (hu:qx G (G.rd w) a u) :
  ∃ r,(convert s t u).run P w=.ok r w/\qx G (G.rd w) d r:=by
 unfold convPQ at h
 split at h
 ·rename_i hh
  split at h
  ·rename_i T ds hl
   obtain⟨k1,b,c,e1,e2,e3,e4,e5⟩:=S.look _ _ hl
   have hu0:=hu
   simp only[qx] at hu
   obtain⟨_,b',e1',rfl⟩:=hu
   rw[e1] at e1'
   simp only[zh,Addr.mk.injEq,and_true] at e1'
   subst e1'
   have hlen:=e5.length
   simp only[qj] at hlen
   have hshape:w.shape? b=some (T,c.size):=by simp[World.shape?,e3]
   split at h
   ·rename_i e hs ht
    split at h
    ·rename_i k hsz
     simp only[zh,zz,zf] at h
     obtain⟨h0,rfl⟩:=h
     unfold szT at hsz
     obtain⟨i,hi,hi2⟩:=Option.map_eq_some_iff.1 hsz
     exact⟨_,Lib.run_to_unsafe (P:=P) w ⟨b,0,none⟩ (qM.und P hs) (qM.und P ht) (qM.inf P hi) aa hshape aJ,hu0⟩
    cases h
   ·rename_i e hs ht
    split at h
    ·rename_i k hsz
     split at h
     ·rename_i hq
      obtain⟨rfl,hk⟩:=hq
      cases h
      unfold szT at hsz
      obtain⟨i,hi,hi2⟩:=Option.map_eq_some_iff.1 hsz
      have hce:P.cellsOf e=k+1:=by simp[Program.cellsOf,qM.inf P hi,hi2]
      have hq:c.size / P.cellsOf e=1:=by rw[hce,hlen,hk];exact Nat.div_self aa
      exact⟨_,Lib.run_from_unsafe (P:=P) w ⟨b,0,none⟩ (qM.und P hs) (qM.und P ht) (qM.inf P hi) hshape (by rw[hq];exact liesAt_self aa 1 1 aa),hu0⟩
     cases h
    cases h
   cases h
  cases h
 cases h
theorem convPQ_refs {s t:TypeId} {x r:DV} {sd:Bool} (h:convPQ Y s t look x=some (sd,r)):∀ k∈r.refs,k∈x.refs:=by
 intro k hk
 unfold convPQ at h
 split at h
 ·split at h
  ·split at h
   ·split at h
    ·cases h;exact hk
    cases h
   ·split at h
    ·split at h
     ·cases h;exact hk
     cases h
    cases h
   cases h
  cases h
 cases h
def samePQ (Y:Tab) (op:BinOp) (t:TypeId) (x y:DV):Option (Bool×DV):=
 match x,y,Y.underlying t with
 | .bref h c,.bref h' c',some (.pointer e)=>match Y.info? e with
  | some _=>if h=h'/\c=c' then (match op with
   | .eql=>some (true,lit (.bool true))
   | .neq=>some (true,lit (.bool false))
   | _=>none) else none
  | none=>none
 | _,_,_=>none
theorem samePQ_sound {op:BinOp} {t:TypeId} {x y:Operand} {a b d:DV} {u v:Value} {R:Rd} (h:samePQ Y op t a b=some (true,d)) (hu:qx G R a u) (hv:qx G R b v) :
  ∃ r,(do eqGuard op t x y u v;binOp op t u v:Sem Value).run P w=.ok r w/\qx G R d r:=by
 unfold samePQ at h
 split at h
 ·rename_i hh c h' c' e ht
  split at h
  ·rename_i j hj
   split at h
   ·rename_i hq
    obtain⟨rfl,rfl⟩:=hq
    simp only[qx] at hu hv
    obtain⟨_,b1,e1,rfl⟩:=hu
    obtain⟨_,b2,e2,rfl⟩:=hv
    rw[e1] at e2
    simp only[zh,Addr.mk.injEq,and_true] at e2
    subst e2
    rw[eqGuard_at_pointer]
    have he:∀ d:Nat,(Op.equalIn (d+1) t (.pointer (some ⟨b1,c,none⟩)) (.pointer (some ⟨b1,c,none⟩))).run P w=.ok true w:=fun d=>by
     simp[Op.equalIn,qI ht,sizeOf,typeInfo,qM.inf P hj,run_sameAddr_same]
    split at h
    ·cases h
     refine⟨.bool true,?_,qL rfl⟩
     simp only[binOp,qt,qu,qr]
     have:(Op.equal t (.pointer (some ⟨b1,c,none⟩)) (.pointer (some ⟨b1,c,none⟩))).run P w=.ok true w:=he 9999
     simp only[this,qr]
    ·cases h
     refine⟨.bool false,?_,qL rfl⟩
     have:=Lib.run_neq_ptr_same (P:=P) w ⟨b1,c,none⟩ (qM.und P ht) (qM.inf P hj)
     simp only[qt,qu,qr,this]
    cases h
   cases h
  cases h
 cases h
theorem samePQ_refs {op:BinOp} {t:TypeId} {x y r:DV} {s:Bool} (h:samePQ Y op t x y=some (s,r)):r.refs=[]:=by
 unfold samePQ at h
 split at h
 ·split at h
  ·split at h
   ·split at h<;>first|(cases h;rfl)|cases h
   cases h
  cases h
 cases h
theorem ki (C:Ctx G w ρ ev look fl) {w':World} {val:DV} {r:Value} (hos:w'.os=w.os) (htape:w'.tape=w.tape) (hout:w'.output=w.output) (hsize:w.heap.size<=w'.heap.size)
  (hblk:∀ b,b<w.heap.size->w'.heap[b]? =w.heap[b]?) (hval:qx G (G.rd w') val r) (hr:val.refs=[]) (hdr:Lz.D=true->w.drawn<=w'.drawn:=by first|(intro _;exact zC _)|(intro _;subst_vars;first|exact zC _|exact Nat.le_succ _)):Stepped G w fl val [] G w' r:=by
 refine⟨Later.of Z Z hos htape hout hsize (fun b hb hg=>⟨hblk b hb,hg⟩) hdr,hval,by simp,fun _ _ _=>.inl rfl,fun _ _=>⟨rfl,fun b hb=>⟨hb,hblk b (C.cfresh _ _ hb)⟩⟩,fun b h hb=>Nat.lt_of_lt_of_le (C.cfresh b h hb) hsize,
  fun _ _ hb=>.inr hb,by rw[hr];simp,by simp,fun _ _ hb=>.inl hb,fun _ _ _ _ h=>.inl h,fun _ _ _ h=>.inl h⟩
def s2bV (Y:Tab) (s d:TypeId) (x:DV):Option Out:=
 match x with
 | .pv (.lit (.string b))=>match Y.underlying s,Y.underlying d with
  | some .string,some (.slice e)=>match Y.underlying e with
   | some (.int .u8)=>some ⟨true,.pv (.slice (b.data.toList.map fun c=>[.lit (.int .u8 (c.toNat:Int))])),[]⟩
   | _=>none
  | _,_=>none
 | _=>none
theorem relElems_bytes {R:Rd} {b:Nat}:∀ (l:List UInt8) (off:Nat),(∀ j c,l[j]? =some c->R.cell b (off+j)=some (.int .u8 (c.toNat:Int)))->
  qT R (l.map fun c=>[PV.lit (.int .u8 (c.toNat:Int))]) b off 1
 | [],_,_=>by simp only[z6,qT]
 | c::l,off,h=>by
  simp only[zA,qT,qZ]
  refine⟨rfl,⟨⟨_,by simpa using h 0 c rfl,rfl,by simp[qN,isLit]⟩,trivial⟩,relElems_bytes l (off+1) fun j c' hj=>?_⟩
  have:=h (j+1) c' an
  rwa [show off+1+j=off+(j+1) by omega]
theorem s2bV_sound (C:Ctx G w ρ ev look fl) (hbl:G.base<=w.heap.size) {s d:TypeId} {x:Operand} {out:Out} (h:s2bV Y s d (ev x)=some out) :
  ∃ r w' G',(convert s d (ρ x)).run P w=.ok r w'/\Stepped G w fl out.val out.ms G' w' r:=by
 unfold s2bV at h
 split at h
 ·rename_i b hx
  split at h
  ·rename_i e hs hd
   split at h
   ·rename_i he
    cases h
    have hv:=C.sees.ev x
    rw[hx] at hv
    obtain⟨ex,_⟩:=qA hv
    rw[ex]
    have hr:=Lib.run_convert_string_bytes (P:=P) w s d e b (qM.und P hs) (qM.und P hd) (qM.und P he)
    obtain⟨W,hW⟩:∃ W,W=Lib.bytesWorld w e b:=⟨_,rfl⟩
    rw[<-hW] at hr
    have hb:b.data.toList.length=b.size:=qj
    have hγ:G.γ w.heap.size=none:=by
     cases hg:G.γ w.heap.size with
     | none=>rfl
     | some k=>have:=C.cfresh _ _ hg;omega
    have hbase:¬w.heap.size<G.base:=aa
    refine⟨_,W,G,hr,ki C (by rw[hW];rfl) (by rw[hW];rfl) (by rw[hW];rfl) (by rw[hW,Lib.bytesWorld_size];omega) (fun k hk=>by rw[hW];exact Lib.bytesWorld_at_old w e b k hk) ?_ ak⟩
    simp only[qx,qN]
    have hl:(b.data.toList.map fun c=>[PV.lit (.int .u8 (c.toNat:Int))]).length=b.size:=by rw[zJ,hb]
    refine⟨_,_,by rw[hl],by rw[hl];exact grownCap_ge w b.size 0 e,?_⟩
    right
    refine⟨w.heap.size,0,1,rfl,relElems_bytes _ _ fun j c hj=>?_⟩
    simp only[Gh.rd,if_neg hbase,hγ,qp,Nat.zero_add]
    have hlt:j<b.size:=by rw[<-hb];exact (List.getElem?_eq_some_iff.1 hj).1
    rw[hW,Lib.bytesWorld_cell w e b j hlt,ze,hj];rfl
   cases h
  cases h
 cases h
end
section
variable {P:Program} {Y:Tab} [qM P Y] {G:Gh} {w:World} {ρ:Operand->Value} {ev:Operand->DV} {look fl:Nat->Option MO}
theorem refs_getD {ds:List DV} {i h:Nat} (hh:h∈(ds.getD i .dead).refs):h∈DV.qP ds:=by
 rw[ze] at hh
 cases e:ds[i]? with
 | none=>rw[e] at hh;simp[DV.refs] at hh
 | some d=>rw[e] at hh;exact jo.2 ⟨d,List.mem_of_getElem? e,by simpa using hh⟩
theorem refsL_sub {ds:List DV} {c n h:Nat} (hh:h∈DV.qP ((ds.drop c).take n)):h∈DV.qP ds:=by
 obtain⟨d,hd,hk⟩:=jo.1 hh
 exact jo.2 ⟨d,zy (zx hd),hk⟩
theorem loadQ_refs {t:TypeId} {d r:DV} {s:Bool} (h:Zh Y t look d=some (s,r)):∀ k∈r.refs,∃ k' o,look k'=some o/\k∈o.refs:=by
 intro k hk
 unfold Zh at h
 split at h
 ·split at h
  ·split at h<;>(cases h;simp[DV.refs] at hk)
  ·split at h
   ·rename_i ds hl
    split at h
    ·cases h;exact⟨_,_,hl,refsL_sub (refs_mkAgg hk)⟩
    cases h;exact⟨_,_,hl,refs_getD hk⟩
   ·split at h<;>(cases h;simp[DV.refs] at hk)
   cases h
  ·split at h
   ·split at h
    ·split at h<;>(cases h;simp[DV.refs] at hk)
    cases h
   cases h
  cases h
 cases h
theorem fieldAddrQ_refs {t:TypeId} {f:Nat} {d r:DV} {s:Bool} (h:jK Y t f look d=some (s,r)):∀ k∈r.refs,k∈d.refs:=by
 intro k hk
 unfold jK at h
 split at h
 ·split at h
  ·split at h
   ·cases h;simpa [DV.refs] using hk
   ·split at h
    ·cases h;simpa [DV.refs] using hk
    cases h
   ·cases h;simp[DV.refs] at hk
   cases h
  cases h
 cases h
theorem fieldQ_refs {t:TypeId} {f:Nat} {d r:DV} {s:Bool} (h:fieldQ Y t f d=some (s,r)):∀ k∈r.refs,k∈d.refs:=by
 intro k hk
 unfold fieldQ at h
 split at h
 ·split at h
  ·cases h;simp[DV.refs] at hk
  ·cases h;simp[DV.refs] at hk
  ·cases h;exact refsL_sub (refs_mkAgg hk)
  ·cases h;exact refs_getD hk
  cases h
 cases h
theorem Zf {t:TypeId} {x i r:DV} {s:Bool} (h:jC Y t look x i=some (s,r)):∀ k∈r.refs,k∈x.refs:=by
 intro k hk
 unfold jC at h
 split at h
 ·split at h
  ·split at h
   ·cases h;simp[DV.refs] at hk
   ·split at h
    ·split at h
     ·cases h;simpa [DV.refs] using hk
     cases h
    ·split at h
     ·cases h;simp[DV.refs] at hk
     cases h
    cases h
   cases h
  cases h
 ·split at h
  ·split at h
   ·cases h;simpa [DV.refs] using hk
   ·cases h;simp[DV.refs] at hk
   cases h
  cases h
 cases h
theorem indexQ_refs {t:TypeId} {x i r:DV} {s:Bool} (h:indexQ Y t x i=some (s,r)):r.refs=[]:=by
 unfold indexQ at h
 split at h
 ·cases h;rfl
 ·split at h
  ·cases h;rfl
  cases h
 cases h
theorem sliceQ_refs {t:TypeId} {x r:DV} {lo hi mx:Option DV} {s:Bool} (h:ku Y t look x lo hi mx=some (s,r)):∀ k∈r.refs,k∈x.refs:=by
 intro k hk
 unfold ku at h
 split at h
 ·split at h
  ·cases h;simp[lit,DV.refs] at hk
  cases h
 ·split at h
  ·split at h
   ·cases h;simp[DV.refs] at hk
   ·cases h;simp[DV.refs] at hk
   ·split at h
    ·split at h
     ·split at h
      ·cases h;simpa [DV.refs] using hk
      cases h;simpa [DV.refs] using hk
     cases h
    ·split at h
     ·cases h;simp[DV.refs] at hk
     cases h
    cases h
   ·split at h
    ·split at h
     ·cases h;simp[DV.refs] at hk
     cases h
    cases h
   cases h
  cases h
 cases h
theorem nilQ_refs {op:BinOp} {t:TypeId} {x y r:DV} {s:Bool} (h:nilQ Y op t x y=some (s,r)):r.refs=[]:=by
 unfold nilQ at h
 split at h
 ·split at h
  ·split at h<;>first|(cases h;rfl)|cases h
  cases h
 cases h
theorem binQ_refs {op:BinOp} {t:TypeId} {x y r:DV} {s:Bool} (h:binQ Y op t x y=some (s,r)):r.refs=[]:=by
 unfold binQ at h
 split at h
 ·split at h
  ·obtain⟨p,_,e⟩:=Option.map_eq_some_iff.1 h;cases e;rfl
  ·obtain⟨p,_,e⟩:=Option.map_eq_some_iff.1 h;cases e;rfl
  split at h
  ·obtain⟨p,_,e⟩:=Option.map_eq_some_iff.1 h;cases e;rfl
  cases h
 ·obtain⟨p,_,e⟩:=Option.map_eq_some_iff.1 h;cases e;rfl
 ·split at h<;>first|(cases h;rfl)|cases h
 ·split at h
  ·split at h<;>first|(cases h;rfl)|cases h
  cases h
 cases h
theorem unQ_refs {op:UnOp} {x r:DV} {s:Bool} (h:unQ op x=some (s,r)):r.refs=[]:=by
 unfold unQ at h
 split at h<;>first|(cases h;rfl)|cases h
theorem convQ_refs {t u:TypeId} {x r:DV} {s:Bool} (h:convQ Y t u x=some (s,r)):r.refs=[]:=by
 unfold convQ at h
 split at h<;>first|(cases h;rfl)|cases h
theorem lenQ_refs {t:TypeId} {x r:DV} {s:Bool} (h:lenQ Y t look x=some (s,r)):r.refs=[]:=by
 unfold lenQ at h
 split at h
 ·split at h<;>first|(cases h;rfl)|cases h
 ·obtain⟨p,_,e⟩:=Option.map_eq_some_iff.1 h;cases e;rfl
 ·cases h;rfl
 ·split at h<;>first|(cases h;rfl)|cases h
 cases h
theorem maxQ2_refs {b:Bool} {ds:List DV} {r:DV} {s:Bool} (h:maxQ2 b ds=some (s,r)):r.refs=[]:=by
 unfold maxQ2 at h
 split at h
 ·split at h
  ·cases h;rfl
  cases h
 cases h
theorem funcQ_refs {f:Fn} {a b:List DV} {r:DV} {s:Bool} (h:funcQ f a b=some (s,r)):∀ k∈r.refs,k∈DV.qP a\/k∈DV.qP b:=by
 intro k hk
 unfold funcQ at h
 split at h
 ·split at h
  ·cases h;simp[DV.refs] at hk
  cases h;simpa [DV.refs] using hk
 cases h
theorem lookupQ_refs {t:TypeId} {x i r:DV} {ok s:Bool} (h:Ze Y t x i ok=some (s,r)):r.refs=[]:=by
 unfold Ze at h
 split at h
 ·split at h
  ·split at h
   ·cases h
    cases ok<;>simp[DV.refs,DV.qP,lit]
   cases h
  cases h
 cases h
theorem refsL_map {xs:List Operand} {k:Nat} (h:k∈DV.qP (xs.map ev)):∃ x,k∈(ev x).refs:=by
 obtain⟨d,hd,hk⟩:=jo.1 h
 obtain⟨x,_,rfl⟩:=zF.1 hd
 exact⟨x,hk⟩
theorem qv_refs {op:Op} {r:DV} {s:Bool} (h:qv Y op ev look=some (s,r)):∀ k∈r.refs,Src ev look k:=by
 intro k hk
 have nil:r.refs=[]->Src ev look k:=fun e=>by rw[e] at hk;cases hk
 cases op<;>simp only[qv] at h<;>try (cases h;done)
 case move x=>
  split at h
  ·cases h
  cases h;exact .inl ⟨x,hk⟩
 case assign x=>
  split at h
  ·cases h
  cases h;exact .inl ⟨x,hk⟩
 case pick c a b=>
  split at h
  ·split at h
   ·cases h;exact nil rfl
   cases h
  cases h
 case load t a=>exact .inr (loadQ_refs h k hk)
 case nilCheck x=>
  split at h
  ·rename_i he;cases h;exact .inl ⟨x,by rw[he];exact hk⟩
  ·rename_i he
   split at h
   ·cases h;exact .inl ⟨x,by rw[he];exact hk⟩
   cases h
  ·cases h;exact nil rfl
  cases h
 case binOp op t x y yt=>
  split at h
  ·rename_i r' hr;rw[h] at hr;exact nil (nilQ_refs hr)
  exact nil (binQ_refs h)
 case unOp op t x=>exact nil (unQ_refs h)
 case convert a b x=>exact nil (convQ_refs h)
 case makeFunc fn first caps=>
  rcases funcQ_refs h k hk with e|e
  ·exact .inl (refsL_map e)
  exact .inl (refsL_map e)
 case slice t x lo hi mx=>exact .inl ⟨x,sliceQ_refs h k hk⟩
 case fieldAddr t x f=>exact .inl ⟨x,fieldAddrQ_refs h k hk⟩
 case field t x f=>exact .inl ⟨x,fieldQ_refs h k hk⟩
 case indexAddr t x i=>exact .inl ⟨x,Zf h k hk⟩
 case index t x i=>exact nil (indexQ_refs h)
 case lookup t x i ok=>exact nil (lookupQ_refs h)
 case extract x i=>
  split at h
  ·rename_i ds hd
   split at h
   ·rename_i d he
    cases h
    exact .inl ⟨x,by rw[hd];exact jo.2 ⟨_,List.mem_of_getElem? he,hk⟩⟩
   cases h
  cases h
 case call c=>
  split at h
  ·exact nil (lenQ_refs h)
  ·exact nil (maxQ2_refs h)
  ·exact nil (maxQ2_refs h)
  cases h
def jT (Y:Tab) (t:TypeId) (look:Nat->Option MO) (x i:DV):Option (Bool×DV):=
 match x with
 | .atrunc h v m=>match look h with
  | some (.arr v' sz' _ _)=>match Y.underlying t,i with
   | some (.slice e),.pv (.lit (.int _ n))=>match szT Y e with
    | some sz=>if v=v'/\sz=sz' then some (decide (0<=n/\n<m),.eref h v n.toNat 0) else none
    | none=>none
   | _,_=>none
  | _=>match pvOf look (.atrunc h v m) with
   | some p=>jC Y t look (.pv p) i
   | none=>none
 | .awin h v o m=>match look h with
  | some (.arr v' sz' _ _)=>match Y.underlying t,i with
   | some (.slice e),.pv (.lit (.int _ n))=>match szT Y e with
    | some sz=>if v=v'/\sz=sz' then some (decide (0<=n/\n<m),.eref h v (o+n.toNat) 0) else none
    | none=>none
   | _,_=>none
  | _=>none
 | x=>jC Y t look x i
theorem indexAddrW_sound (S:Sees G w ρ ev look) {t:TypeId} {a i d:DV} {u k:Value} (h:jT Y t look a i=some (true,d)) (hu:qx G (G.rd w) a u)
  (hk:qx G (G.rd w) i k):∃ r,(Instr.indexAt t u k).run P w=.ok r w/\qx G (G.rd w) d r:=by
 unfold jT at h
 split at h
 ·rename_i hh v m
  split at h
  ·rename_i v' sz' T0 es hl
   split at h
   ·rename_i e ik n ht
    obtain⟨rfl,_⟩:=qA hk
    split at h
    ·rename_i sz hsz
     split at h
     ·rename_i hq
      obtain⟨rfl,rfl⟩:=hq
      simp only[zh,zz,zf] at h
      obtain⟨⟨h0,h1⟩,rfl⟩:=h
      obtain⟨k1,k2,k3,k4,k5,k6,k7⟩:=S.look _ _ hl
      simp only[qx] at hu
      obtain⟨hm,hv⟩:=hu.2 k2
      subst hv
      rcases k7 with ⟨e1,e2⟩|⟨b,c,e1,_⟩
      ·omega
      rw[e1]
      refine⟨.pointer (some ⟨b,0+n.toNat*sz,none⟩),?_,?_⟩
      ·simp only[Instr.indexAt,qt,asIntOf,qu,qI ht,qr,h0,h1,and_self,qp,Sem.run_ite,qV hsz,Addr.add_lit]
      simp only[qx]
      exact⟨aa,fun _=>⟨b,0,e1,by rw[k3];rfl⟩⟩
     cases h
    cases h
   cases h
  split at h
  ·rename_i p hp
   exact kK (P:=P) S h aM hk
  cases h
 ·rename_i hh v o m
  split at h
  ·rename_i v' sz' T0 es hl
   split at h
   ·rename_i e ik n ht
    obtain⟨rfl,_⟩:=qA hk
    split at h
    ·rename_i sz hsz
     split at h
     ·rename_i hq
      obtain⟨rfl,rfl⟩:=hq
      simp only[zh,zz,zf] at h
      obtain⟨⟨h0,h1⟩,rfl⟩:=h
      obtain⟨k1,k2,k3,k4,k5,k6,k7⟩:=S.look _ _ hl
      simp only[qx] at hu
      obtain⟨hm,b,off,e1,hv⟩:=hu.2 k2
      subst hv
      rw[k3]
      refine⟨.pointer (some ⟨b,off+o*sz+n.toNat*sz,none⟩),?_,?_⟩
      ·simp only[Instr.indexAt,qt,asIntOf,qu,qI ht,qr,h0,h1,and_self,qp,Sem.run_ite,qV hsz,Addr.add_lit]
      simp only[qx]
      exact⟨aa,fun _=>⟨b,off,e1,by rw[k3,Nat.add_mul];simp[Nat.add_assoc]⟩⟩
     cases h
    cases h
   cases h
  cases h
 exact kK (P:=P) S h hu hk
theorem indexAddrW_refs {t:TypeId} {x i r:DV} {s:Bool} (h:jT Y t look x i=some (s,r)):∀ k∈r.refs,k∈x.refs:=by
 intro k hk
 unfold jT at h
 split at h
 ·split at h
  ·split at h
   ·split at h
    ·split at h
     ·cases h;simpa [DV.refs] using hk
     cases h
    cases h
   cases h
  split at h
  ·have:=Zf h k hk;simp[DV.refs] at this
  cases h
 ·split at h
  ·split at h
   ·split at h
    ·split at h
     ·cases h;simpa [DV.refs] using hk
     cases h
    cases h
   cases h
  cases h
 exact Zf h k hk
def kn (Y:Tab) (t:TypeId) (look:Nat->Option MO) (x:DV) (lo hi mx:Option DV):Option (Bool×DV):=
 match x with
 | .atrunc h v m=>match look h with
  | some (.arr v' _ _ _)=>match Y.underlying t,lo,bound hi,mx with
   | some (.slice e),none,some hi,none=>match szT Y e with
    | some _=>if v=v' then
      (match hi with
       | none=>some (true,.atrunc h v m)
       | some k=>some (decide (0<=k/\k<=m),.atrunc h v k.toNat)) else none
    | none=>none
   | _,_,_,_=>none
  | _=>match pvOf look (.atrunc h v m) with
   | some p=>ku Y t look (.pv p) lo hi mx
   | none=>none
 | .nils=>match Y.underlying t,bound lo,bound hi,mx with
  | some (.slice e),some lo,some hi,none=>match szT Y e with
   | some _=>some (decide (lo.getD 0=0/\hi.getD 0=0),.nils)
   | none=>none
  | _,_,_,_=>none
 | .aref h v=>match look h,Y.underlying t,bound lo,bound hi,mx with
  | some (.arr v' sz' _ es),some (.slice e),some (some l),some (some k),none=>match szT Y e with
   | some sz=>if v=v'/\sz=sz' then some (decide (0<=l/\l<k/\k<=es.length),.awin h v l.toNat (k.toNat-l.toNat)) else none
   | none=>none
  | _,_,_,_,_=>ku Y t look (.aref h v) lo hi mx
 | x=>ku Y t look x lo hi mx
theorem sliceW_sound (S:Sees G w ρ ev look) {t:TypeId} {a d:DV} {u:Value} {lo hi mx:Option DV} {vlo vhi vmx:Option Value}
  (h:kn Y t look a lo hi mx=some (true,d)) (hu:qx G (G.rd w) a u)
  (hlo:ORel G (G.rd w) lo vlo) (hhi:ORel G (G.rd w) hi vhi) (hmx:ORel G (G.rd w) mx vmx) :
  ∃ r,(Instr.sliceAt t u vlo vhi vmx).run P w=.ok r w/\qx G (G.rd w) d r:=by
 unfold kn at h
 split at h
 ·rename_i hh v m
  split at h
  ·rename_i v' sz' T0 es hl
   split at h
   ·rename_i e hi' ht hb
    have B2:=jH hb hhi
    have hm0:vmx=none:=by cases vmx<;>simp_all [ORel]
    have hl0:vlo=none:=by cases vlo<;>simp_all [ORel]
    subst hm0
    subst hl0
    rw[kA av ht]
    split at h
    ·rename_i sz hsz
     split at h
     ·rename_i hq
      subst hq
      obtain⟨k1,k2,k3,k4,k5,k6,k7⟩:=S.look _ _ hl
      simp only[qx] at hu
      obtain⟨hm,hv⟩:=hu.2 k2
      subst hv
      have B1:OInt (none:Option Int) (none:Option Value):=by simp[OInt]
      have run:0<=hi'.getD (m:Int)->hi'.getD (m:Int)<=(m:Int)->
        (Instr.slice t (.slice (G.ρ hh).addr m (G.ρ hh).cap) none vhi none).run P w=.ok (.slice (G.ρ hh).addr (hi'.getD (m:Int)).toNat (G.ρ hh).cap) w:=by
       intro b2 b3
       have hb:=jB (P:=P) (w:=w) (isS:=true) (len:=m) (cap:=(G.ρ hh).cap) B1 B2 ao (by simpa using b2) aa
       simp only[Instr.slice,qt,qI ht,qr,hb,qV hsz,qu]
       simp only[Option.getD_none,Int.toNat_zero,Nat.zero_mul,Nat.sub_zero]
       congr 2
       split
       ·rfl
       cases (G.ρ hh).addr<;>simp[Addr.add]
      split at h
      ·cases h
       refine⟨_,run ao ao,?_⟩
       simp only[qx]
       exact⟨aa,fun _=>⟨hm,by simp⟩⟩
      rename_i k
      simp only[zh,zz,zf] at h
      obtain⟨⟨b1,b2⟩,rfl⟩:=h
      refine⟨_,run aw (by simpa using b2),?_⟩
      simp only[qx]
      exact⟨aa,fun _=>⟨aa,by simp⟩⟩
     cases h
    cases h
   cases h
  split at h
  ·rename_i p hp
   exact sliceQ_sound (P:=P) S h aM hlo hhi hmx
  cases h
 ·split at h
  ·rename_i e lo' hi' ht hl hh
   have B1:=jH hl hlo
   have B2:=jH hh hhi
   have hm0:vmx=none:=by cases vmx<;>simp_all [ORel]
   subst hm0
   rw[kA av ht]
   split at h
   ·rename_i sz hsz
    simp only[zh,zz,zf] at h
    obtain⟨⟨b1,b2⟩,rfl⟩:=h
    simp only[qx] at hu
    subst hu
    have hb:=jB (P:=P) (w:=w) (isS:=true) (len:=0) (cap:=0) B1 B2 aa aN aN
    refine⟨.slice none 0 0,?_,by simp only[qx]⟩
    simp only[Instr.slice,qt,qI ht,qr,hb,qV hsz,qu]
    simp only[Int.ofNat_zero,Int.natCast_zero,b1,b2]
    simp
   cases h
  cases h
 ·rename_i hh v
  split at h
  ·rename_i v' sz' T0 es e l k hlk ht hl hh2
   have B1:=jH hl hlo
   have B2:=jH hh2 hhi
   have hm0:vmx=none:=by cases vmx<;>simp_all [ORel]
   subst hm0
   rw[kA av ht]
   split at h
   ·rename_i sz hsz
    split at h
    ·rename_i hq
     obtain⟨rfl,rfl⟩:=hq
     simp only[zh,zz,zf] at h
     obtain⟨⟨b1,b2,b3⟩,rfl⟩:=h
     obtain⟨k1,k2,k3,k4,k5,k6,k7⟩:=S.look _ _ hlk
     simp only[qx] at hu
     have hv:=hu.2 k2
     subst hv
     rcases k7 with ⟨e1,e2⟩|⟨b,c,e1,_⟩
     ·omega
     have hb:=jB (P:=P) (w:=w) (isS:=true) (len:=(G.ρ hh).len) (cap:=(G.ρ hh).cap) B1 B2 aw (by simp only[zQ];omega) (by simp only[zQ];omega)
     rw[e1]
     refine⟨.slice (some ⟨b,0+l.toNat*sz,none⟩) (k.toNat-l.toNat) ((G.ρ hh).cap-l.toNat),?_,?_⟩
     ·simp only[Instr.slice,qt,qI ht,qr,hb,qV hsz,qu,zQ]
      rw[if_neg aa]
      simp[Addr.add_lit]
     simp only[qx]
     exact⟨aa,fun _=>⟨aa,b,0,e1,by rw[k3]⟩⟩
    cases h
   cases h
  exact sliceQ_sound (P:=P) S h hu hlo hhi hmx
 exact sliceQ_sound (P:=P) S h hu hlo hhi hmx
theorem sliceW_refs {t:TypeId} {x r:DV} {lo hi mx:Option DV} {s:Bool} (h:kn Y t look x lo hi mx=some (s,r)):∀ k∈r.refs,k∈x.refs:=by
 intro k hk
 unfold kn at h
 split at h
 ·split at h
  ·split at h
   ·split at h
    ·split at h
     ·split at h
      ·cases h;simpa [DV.refs] using hk
      cases h;simpa [DV.refs] using hk
     cases h
    cases h
   cases h
  split at h
  ·have:=sliceQ_refs h k hk;simp[DV.refs] at this
  cases h
 ·split at h
  ·split at h
   ·cases h;simp[DV.refs] at hk
   cases h
  cases h
 ·split at h
  ·split at h
   ·split at h
    ·cases h;simpa [DV.refs] using hk
    cases h
   cases h
  exact sliceQ_refs h k hk
 exact sliceQ_refs h k hk
def isNilS (look:Nat->Option MO):DV->Option Bool
 | .nils=>some true
 | .pv (.lit (.slice none 0 0))=>some true
 | .pv (.slice (_::_))=>some false
 | .aref h v=>match look h with
  | some (.arr v' _ _ (_::_))=>if v=v' then some false else none
  | some (.farr v' (_::_))=>if v=v' then some false else none
  | _=>none
 | _=>none
theorem isNilS_sound (S:Sees G w ρ ev look) {d:DV} {b:Bool} {v:Value} (h:isNilS look d=some b) (hv:qx G (G.rd w) d v):∃ a n c,v=.slice a n c/\a.isNone=b:=by
 unfold isNilS at h
 split at h
 ·cases h
  simp only[qx] at hv
  exact⟨none,0,0,hv,rfl⟩
 ·cases h
  simp only[qx,qN] at hv
  exact⟨none,0,0,hv.1,rfl⟩
 ·cases h
  simp only[qx,qN] at hv
  obtain⟨a,cap,rfl,_,H⟩:=hv
  rcases H with H|⟨b,off,esz,rfl,_⟩
  ·cases H
  exact⟨_,_,_,rfl,rfl⟩
 ·rename_i hh vv
  split at h
  ·rename_i v' z T e es hl
   split at h
   ·rename_i hq
    subst hq
    cases h
    obtain⟨k1,k2,k3,k4,k5,k6,k7⟩:=S.look _ _ hl
    simp only[qx] at hv
    rcases k7 with ⟨e1,e2⟩|⟨b,c,e1,_⟩
    ·simp only[zb] at k5;omega
    exact⟨_,_,_,hv.2 k2,by rw[e1];rfl⟩
   cases h
  ·rename_i v' e es hl
   split at h
   ·rename_i hq
    subst hq
    cases h
    obtain⟨k1,k2,k4,k5,k7⟩:=S.look _ _ hl
    simp only[qx] at hv
    rcases k7 with e1|⟨b,off,esz,e1,_⟩
    ·cases e1
    exact⟨_,_,_,hv.2 k2,by rw[e1];rfl⟩
   cases h
  cases h
 cases h
def sliceNilQ (Y:Tab) (op:BinOp) (t:TypeId) (look:Nat->Option MO) (x:DV):Option (Bool×DV):=
 match Y.underlying t,isNilS look x,op with
 | some (.slice _),some b,.eql=>some (true,lit (.bool b))
 | some (.slice _),some b,.neq=>some (true,lit (.bool (!b)))
 | _,_,_=>none
def kP:Operand->Bool
 | .const .nilIface=>true
 | _=>false
def isNilI:DV->Option Bool
 | .pv (.lit .nilIface)=>some true
 | .pv (.iface _ _)=>some false
 | _=>none
def ifaceNilQ (Y:Tab) (op:BinOp) (t:TypeId) (x:DV):Option (Bool×DV):=
 match Y.underlying t,isNilI x,op with
 | some (.interface _),some b,.eql=>some (true,lit (.bool b))
 | some (.interface _),some b,.neq=>some (true,lit (.bool (!b)))
 | _,_,_=>none
theorem equalIn_iface {t:TypeId} {ms:Array (String×TypeId)} (h:Y.underlying t=some (.interface ms)) (n:Nat) :
  (Op.equalIn (n+1) t .nilIface .nilIface).run P w=.ok true w/\∀ ty v,(Op.equalIn (n+1) t (.iface ty v) .nilIface).run P w=.ok false w:=
 ⟨by simp[Op.equalIn,qI h],fun ty v=>by simp[Op.equalIn,qI h]⟩
theorem ifaceNil_run {t:TypeId} {x:Operand} {b:Bool} {ms:Array (String×TypeId)} (ht:Y.underlying t=some (.interface ms)) (hb:isNilI (ev x)=some b) (S:Sees G w ρ ev look) :
  (Op.equal t (ρ x) .nilIface).run P w=.ok b w/\(∀ op,eqGuard op t x (.const .nilIface) (ρ x) .nilIface=pure ())/\
   binOp .eql t (ρ x) .nilIface=(do pure (.bool (<-Op.equal t (ρ x) .nilIface)))/\binOp .neq t (ρ x) .nilIface=(do pure (.bool (!(<-Op.equal t (ρ x) .nilIface)))):=by
 have hX:=S.ev x
 unfold isNilI at hb
 split at hb
 ·rename_i hx
  cases hb
  rw[hx] at hX
  rw[(qA hX).1]
  exact⟨(equalIn_iface ht 9999).1,fun op=>by cases op<;>first|rfl|(cases x<;>rfl),rfl,rfl⟩
 ·rename_i ty p hx
  cases hb
  rw[hx] at hX
  simp only[qx,qN] at hX
  obtain⟨u,hu,_⟩:=hX
  rw[hu]
  exact⟨(equalIn_iface ht 9999).2 ty u,fun op=>by cases op<;>rfl,rfl,rfl⟩
 cases hb
def binW (Y:Tab) (op:BinOp) (t:TypeId) (look:Nat->Option MO) (cn:Bool) (x y:DV):Option (Bool×DV):=
 match y with
 | .nils=>sliceNilQ Y op t look x
 | .pv (.lit .nilIface)=>bif cn then ifaceNilQ Y op t x else none
 | y=>match nilQ Y op t x y with
  | some r=>some r
  | none=>match samePQ Y op t x y with
   | some r=>some r
   | none=>binQ Y op t x y
theorem binW_sound (S:Sees G w ρ ev look) {op:BinOp} {t:TypeId} {x y:Operand} {d:DV} (h:binW Y op t look (kP y) (ev x) (ev y)=some (true,d)) :
  ∃ r,(do eqGuard op t x y (ρ x) (ρ y);binOp op t (ρ x) (ρ y):Sem Value).run P w=.ok r w/\qx G (G.rd w) d r:=by
 unfold binW at h
 split at h
 ·rename_i hy
  have hY:=S.ev y
  rw[hy] at hY
  simp only[qx] at hY
  unfold sliceNilQ at h
  split at h
  ·rename_i e b ht hb
   cases h
   obtain⟨a,n,c,hv,ha⟩:=isNilS_sound S hb (S.ev x)
   refine⟨.bool b,?_,qL rfl⟩
   have he:=run_equal_slice_nil (P:=P) w t e a n c (qM.und P ht)
   rw[hv,hY,eqGuard_at_slice]
   simp only[binOp,qt,qu,he,qr,ha]
  ·rename_i e b ht hb
   cases h
   obtain⟨a,n,c,hv,ha⟩:=isNilS_sound S hb (S.ev x)
   refine⟨.bool (!b),?_,qL rfl⟩
   have he:=run_neq_slice_nil (P:=P) w t e a n c (qM.und P ht)
   rw[hv,hY,eqGuard_at_slice]
   simp only[qt,qu,qr,he,ha]
  cases h
 ·rename_i hy
  have hY:=S.ev y
  rw[hy] at hY
  have hY':=(qA hY).1
  cases hc:kP y with
  | false=>rw[hc] at h;cases h
  | true=>
   rw[hc] at h
   simp only[cond_true] at h
   have hyc:y=.const .nilIface:=by
    unfold kP at hc
    split at hc
    ·rfl
    cases hc
   rw[hyc] at hY' ⊢
   unfold ifaceNilQ at h
   split at h
   ·rename_i ms b ht hb
    cases h
    obtain⟨k1,k2,k3,k4⟩:=ifaceNil_run (P:=P) ht hb S
    refine⟨.bool b,?_,qL rfl⟩
    rw[hY',k2,k3]
    simp only[qt,qu,qr,k1]
   ·rename_i ms b ht hb
    cases h
    obtain⟨k1,k2,k3,k4⟩:=ifaceNil_run (P:=P) ht hb S
    refine⟨.bool (!b),?_,qL rfl⟩
    rw[hY',k2,k4]
    simp only[qt,qu,qr,k1]
   cases h
 split at h
 ·rename_i r hr
  rw[h] at hr
  exact nilQ_sound hr (S.ev x) (S.ev y)
 split at h
 ·rename_i r hr
  rw[h] at hr
  exact samePQ_sound hr (S.ev x) (S.ev y)
 exact binQ_sound h (S.ev x) (S.ev y)
theorem binW_refs {op:BinOp} {t:TypeId} {cn:Bool} {x y r:DV} {s:Bool} (h:binW Y op t look cn x y=some (s,r)):r.refs=[]:=by
 unfold binW at h
 split at h
 ·unfold sliceNilQ at h
  split at h<;>first|(cases h;rfl)|cases h
 ·cases cn
  ·cases h
  simp only[cond_true] at h
  unfold ifaceNilQ at h
  split at h<;>first|(cases h;rfl)|cases h
 split at h
 ·rename_i r' hr;rw[h] at hr;exact nilQ_refs hr
 split at h
 ·rename_i r' hr;rw[h] at hr;exact samePQ_refs hr
 exact binQ_refs h
def capQ (Y:Tab) (t:TypeId) (x:DV):Option (Bool×DV):=
 match Y.underlying t,x with
 | some (.slice _),.nils=>some (true,lit (.int .i64 0))
 | _,_=>none
theorem capQ_sound {t ty:TypeId} {a d:DV} {u:Value} (h:capQ Y t a=some (true,d)) (hu:qx G (G.rd w) a u) :
  ∃ r,(Builtin.cap_ #[t] ty #[u]).run P w=.ok r w/\qx G (G.rd w) d r:=by
 unfold capQ at h
 split at h
 ·rename_i e ht
  cases h
  simp only[qx] at hu
  subst hu
  exact⟨_,by simp[Builtin.cap_,qI ht,goInt],qL rfl⟩
 cases h
theorem capQ_refs {t:TypeId} {x r:DV} {s:Bool} (h:capQ Y t x=some (s,r)):r.refs=[]:=by
 unfold capQ at h
 split at h<;>first|(cases h;rfl)|cases h
def mapOf (look:Nat->Option MO) (d:DV):DV:=
 match d with
 | .mref h=>match look h with
  | some (.map ks vs)=>.pv (.map ks vs)
  | some (.fmap ks vs)=>.pv (.map ks vs)
  | _=>d
 | d=>d
theorem lookupW_sound (S:Sees G w ρ ev look) {t:TypeId} {a k d:DV} {ok:Bool} {u key:Value} (h:Ze Y t (mapOf look a) k ok=some (true,d)) (hu:qx G (G.rd w) a u)
  (hk:qx G (G.rd w) k key):∃ r,(Instr.lookup t u key ok).run P w=.ok r w/\qx G (G.rd w) d r:=by
 unfold mapOf at h
 split at h
 ·rename_i hh
  split at h
  ·rename_i ks vs hl
   obtain⟨k1,es,clock,e1,e2,e3,e4⟩:=S.look _ _ hl
   simp only[qx] at hu
   rw[hu.2]
   unfold Ze at h
   split at h
   ·rename_i kt et ht
    split at h
    ·rename_i kd z ks' vs' kp hkt hz hkp
     split at h
     ·rename_i hpk
      simp only[zh,zz,zj,beq_iff_eq] at h
      obtain⟨⟨h1,h2⟩,rfl⟩:=h
      cases hkp
      simp only[qx] at hk
      exact lookup_core ht hkt hz hpk h1 h2 hk e2 e3 e4
     cases h
    cases h
   cases h
  ·rename_i ks vs hl
   obtain⟨k1,es,e1,e2,e3⟩:=S.look _ _ hl
   simp only[qx] at hu
   exact kU (P:=P) S h (by simp only[qx,qN];exact⟨_,es,hu.2,e1,e2,e3⟩) hk
  exact kU (P:=P) S h hu hk
 exact kU (P:=P) S h hu hk
def copy0Q (Y:Tab) (t:TypeId) (look:Nat->Option MO) (d s:DV):Option (Bool×DV):=
 match Y.underlying t,lenOf look d,lenOf look s with
 | some (.slice e),some a,some b=>match szT Y e with
  | some _=>if a=0\/b=0 then some (true,lit (.int .i64 0)) else none
  | none=>none
 | _,_,_=>none
theorem copy0Q_sound (S:Sees G w ρ ev look) {t st ty:TypeId} {d s r:DV} {u v:Value} (h:copy0Q Y t look d s=some (true,r)) (hd:qx G (G.rd w) d u) (hs:qx G (G.rd w) s v) :
  ∃ x,(Builtin.copy_ #[t,st] ty #[u,v]).run P w=.ok x w/\qx G (G.rd w) r x:=by
 unfold copy0Q at h
 split at h
 ·rename_i e a b ht ha hb
  split at h
  ·rename_i sz hsz
   split at h
   ·rename_i hq
    cases h
    obtain⟨ba,ca,rfl⟩:=lenOf_sound S ha hd
    obtain⟨bb,cb,rfl⟩:=lenOf_sound S hb hs
    have hm:Nat.min b a=0:=by
     rcases hq with rfl|rfl
     ·exact Nat.min_zero b
     exact Nat.zero_min a
    refine⟨.int .i64 0,?_,qL rfl⟩
    cases bb<;>cases ba<;>simp[Builtin.copy_,qI ht,qV hsz,Builtin.lenOf,Builtin.firstCells,loadCells,loadCellsFrom,storeCells,goInt,hm]
   cases h
  cases h
 cases h
theorem copy0Q_refs {t:TypeId} {d s r:DV} {sd:Bool} (h:copy0Q Y t look d s=some (sd,r)):r.refs=[]:=by
 unfold copy0Q at h
 split at h
 ·split at h
  ·split at h
   ·cases h;rfl
   cases h
  cases h
 cases h
def convW (Y:Tab) (s t:TypeId) (look:Nat->Option MO) (x:DV):Option (Bool×DV):=
 match x with
 | .bref h c=>convPQ Y s t look (.bref h c)
 | x=>convQ Y s t x
theorem convW_sound (S:Sees G w ρ ev look) {s t:TypeId} {a d:DV} {u:Value} (h:convW Y s t look a=some (true,d)) (hu:qx G (G.rd w) a u) :
  ∃ r,(convert s t u).run P w=.ok r w/\qx G (G.rd w) d r:=by
 unfold convW at h
 split at h
 ·exact convPQ_sound (P:=P) S h hu
 exact convQ_sound (P:=P) h hu
theorem convW_refs {s t:TypeId} {x r:DV} {sd:Bool} (h:convW Y s t look x=some (sd,r)):∀ k∈r.refs,k∈x.refs:=by
 unfold convW at h
 split at h
 ·exact convPQ_refs h
 intro k hk;rw[convQ_refs h] at hk;cases hk
def Zl:Option (Bool×DV)->Option Out
 | some (s,d)=>some ⟨s,d,[]⟩
 | none=>none
def stepV (Y:Tab) (nm:Nat) (dst:Option Tmp) (op:Op) (ev:Operand->DV) (look fl:Nat->Option MO):Option Out:=
 match op,dst with
 | .alloc T,some _=>allocV Y nm T fl
 | .box T x,some _=>boxV T nm (ev x) look fl
 | .build t parts,_=>buildV Y t parts.toList ev look
 | .buildSlice t n parts,some _=>buildSliceV Y nm t n parts.toList ev look fl
 | .store t a x,_=>storeV Y t (ev a) (ev x) look
 | .makeSlice t l c,some _=>makeSliceV Y nm t (ev l) (ev c) fl
 | .makeMap _ none,some _=>makeMapV nm fl
 | .range t x,some _=>rangeV Y nm t (ev x) fl
 | .next x b,_=>nextV (ev x) b look
 | .binOp op t x y _,_=>Zl (binW Y op t look (kP y) (ev x) (ev y))
 | .indexAddr t x i,_=>Zl (jT Y t look (ev x) (ev i))
 | .slice t x lo hi mx,_=>Zl (kn Y t look (ev x) (lo.map ev) (hi.map ev) (mx.map ev))
 | .insert t m k x,_| .mapUpdate t m k x,_=>insertV Y t (ev m) (ev k) (ev x) look
 | .call ⟨.builtin .append,⟨[s,x]⟩,⟨[t,xt]⟩⟩,some _=>appendV Y nm t xt (ev s) (ev x) look fl
 | .call ⟨.builtin .copy,⟨[d,s]⟩,⟨[t,_]⟩⟩,_=>match copy0Q Y t look (ev d) (ev s) with
  | some r=>Zl (some r)
  | none=>copyV Y t (ev d) (ev s) look
 | .call ⟨.builtin .cap,⟨[x]⟩,⟨[t]⟩⟩,_=>Zl (capQ Y t (ev x))
 | .lookup t x k ok,_=>Zl (Ze Y t (mapOf look (ev x)) (ev k) ok)
 | .call ⟨.builtin .unsafeSliceData,⟨[x]⟩,⟨[_]⟩⟩,_=>Zl (usdQ look (ev x))
 | .convert s t x,_=>Zl (convW Y s t look (ev x))
 | _,_=>Zl (qv Y op ev look)
theorem kw (C:Ctx G w ρ ev look fl) {o:Oper} {out:Out} {nm:Nat} (h:stepV Y nm o.dst o.op ev look fl=some out) (hs:out.side=true) :
  ∃ r w' G',((execOp ρ o).run P w=.ok (.value r) w'\/(execOp ρ o).run P w=.ok .skip w'/\r=undef)/\Stepped G w fl out.val out.ms G' w' r:=by
 have lift:∀ {s:Sem Value},(∃ r w' G',s.run P w=.ok r w'/\Stepped G w fl out.val out.ms G' w' r)->
   ∃ r w' G',((do pure (Next.value (<-s)):Sem Next).run P w=.ok (.value r) w'\/(do pure (Next.value (<-s)):Sem Next).run P w=.ok .skip w'/\r=undef)/\Stepped G w fl out.val out.ms G' w' r:=by
  rintro s ⟨r,w',G',h1,h2⟩
  exact⟨r,w',G',.inl (by simp only[qt,h1,qr,qu]),h2⟩
 have liftU:∀ {s:Sem Unit},(∃ w' G',s.run P w=.ok () w'/\Stepped G w fl out.val out.ms G' w' undef)->
   ∃ r w' G',((do s;pure Next.skip:Sem Next).run P w=.ok (.value r) w'\/(do s;pure Next.skip:Sem Next).run P w=.ok .skip w'/\r=undef)/\Stepped G w fl out.val out.ms G' w' r:=by
  rintro s ⟨w',G',h1,h2⟩
  exact⟨undef,w',G',.inr ⟨by simp only[qt,h1,qr,qu],rfl⟩,h2⟩
 obtain⟨dst,op,ty,pos,after,guard⟩:=o
 simp only at h
 unfold stepV at h
 split at h
 ·exact lift (allocV_sound (P:=P) C h hs)
 ·exact lift (boxV_sound C h)
 ·obtain⟨r,h1,h2⟩:=buildV_sound (P:=P) C h
  exact lift ⟨r,w,G,h1,h2⟩
 ·exact lift (buildSliceV_sound C h hs)
 ·exact liftU (storeV_sound (P:=P) C h hs)
 ·exact lift (makeSliceV_sound C h hs)
 ·exact lift (makeMapV_sound C h)
 ·exact lift (rangeV_sound (P:=P) C h)
 ·exact lift (nextV_sound (P:=P) C h)
 ·rename_i op t x y yt
  cases hq:binW Y op t look (kP y) (ev x) (ev y) with
  | none=>rw[hq] at h;cases h
  | some p=>
   obtain⟨s,d⟩:=p
   rw[hq] at h
   cases h
   simp only at hs
   subst hs
   obtain⟨r,h1,h2⟩:=binW_sound (P:=P) C.sees hq
   exact lift (s:=do eqGuard op t x y (ρ x) (ρ y);binOp op t (ρ x) (ρ y)) ⟨r,w,G,h1,qH C h2 (fun k hk=>by rw[binW_refs hq] at hk;cases hk)⟩
 ·rename_i t x i
  cases hq:jT Y t look (ev x) (ev i) with
  | none=>rw[hq] at h;cases h
  | some p=>
   obtain⟨s,d⟩:=p
   rw[hq] at h
   cases h
   simp only at hs
   subst hs
   obtain⟨r,h1,h2⟩:=indexAddrW_sound (P:=P) C.sees hq (C.sees.ev x) (C.sees.ev i)
   exact lift ⟨r,w,G,h1,qH C h2 (fun k hk=>C.csrc k (.inl ⟨x,indexAddrW_refs hq k hk⟩))⟩
 ·rename_i t x lo hi mx
  cases hq:kn Y t look (ev x) (lo.map ev) (hi.map ev) (mx.map ev) with
  | none=>rw[hq] at h;cases h
  | some p=>
   obtain⟨s,d⟩:=p
   rw[hq] at h
   cases h
   simp only at hs
   subst hs
   obtain⟨r,h1,h2⟩:=sliceW_sound (P:=P) C.sees hq (C.sees.ev x) (ORel_map C.sees lo) (ORel_map C.sees hi) (ORel_map C.sees mx)
   exact lift ⟨r,w,G,h1,qH C h2 (fun k hk=>C.csrc k (.inl ⟨x,sliceW_refs hq k hk⟩))⟩
 ·exact liftU (insertV_sound (P:=P) C h hs)
 ·exact liftU (insertV_sound (P:=P) C h hs)
 ·obtain⟨r,w',G',h1,h2⟩:=appendV_sound (P:=P) C (ty:=ty) h hs
  exact lift (s:=Builtin.append_ _ _ _) ⟨r,w',G',by simpa using h1,h2⟩
 ·rename_i d s t st
  split at h
  ·rename_i r hq
   obtain⟨s',d'⟩:=r
   cases h
   simp only at hs
   subst hs
   obtain⟨r,h1,h2⟩:=copy0Q_sound (P:=P) (st:=st) (ty:=ty) C.sees hq (C.sees.ev d) (C.sees.ev s)
   exact lift (s:=Builtin.copy_ _ _ _) ⟨r,w,G,by simpa using h1,qH C h2 (fun k hk=>by rw[copy0Q_refs hq] at hk;cases hk)⟩
  obtain⟨r,w',G',h1,h2⟩:=copyV_sound (P:=P) C (st:=st) (ty:=ty) h hs
  exact lift (s:=Builtin.copy_ _ _ _) ⟨r,w',G',by simpa using h1,h2⟩
 ·rename_i x t
  cases hq:capQ Y t (ev x) with
  | none=>rw[hq] at h;cases h
  | some p=>
   obtain⟨s,d⟩:=p
   rw[hq] at h
   cases h
   simp only at hs
   subst hs
   obtain⟨r,h1,h2⟩:=capQ_sound (P:=P) (ty:=ty) hq (C.sees.ev x)
   exact lift (s:=Builtin.cap_ _ _ _) ⟨r,w,G,by simpa using h1,qH C h2 (fun k hk=>by rw[capQ_refs hq] at hk;cases hk)⟩
 ·rename_i t x k ok
  cases hq:Ze Y t (mapOf look (ev x)) (ev k) ok with
  | none=>rw[hq] at h;cases h
  | some p=>
   obtain⟨s,d⟩:=p
   rw[hq] at h
   cases h
   simp only at hs
   subst hs
   obtain⟨r,h1,h2⟩:=lookupW_sound (P:=P) C.sees hq (C.sees.ev x) (C.sees.ev k)
   exact lift ⟨r,w,G,h1,qH C h2 (fun k hk=>by rw[lookupQ_refs hq] at hk;cases hk)⟩
 ·rename_i x t
  cases hq:usdQ look (ev x) with
  | none=>rw[hq] at h;cases h
  | some p=>
   obtain⟨s,d⟩:=p
   rw[hq] at h
   cases h
   simp only at hs
   subst hs
   obtain⟨r,h1,h2⟩:=usdQ_sound (P:=P) (ts:= #[t]) (ty:=ty) C.sees hq (C.sees.ev x)
   exact lift (s:=Builtin.unsafeSliceData_ _ _ _) ⟨r,w,G,by simpa using h1,qH C h2 (fun k hk=>C.csrc k (.inl ⟨x,usdQ_refs hq k hk⟩))⟩
 ·rename_i u t x
  cases hq:convW Y u t look (ev x) with
  | none=>rw[hq] at h;cases h
  | some p=>
   obtain⟨s,d⟩:=p
   rw[hq] at h
   cases h
   simp only at hs
   subst hs
   obtain⟨r,h1,h2⟩:=convW_sound (P:=P) C.sees hq (C.sees.ev x)
   exact lift ⟨r,w,G,h1,qH C h2 (fun k hk=>C.csrc k (.inl ⟨x,convW_refs hq k hk⟩))⟩
 cases hq:qv Y op ev look with
 | none=>rw[hq] at h;cases h
 | some p=>
  obtain⟨s,d⟩:=p
  rw[hq] at h
  cases h
  simp only at hs
  subst hs
  obtain⟨r,h1,h2⟩:=qv_sound (P:=P) C.sees (o:=⟨dst,op,ty,pos,after,guard⟩) hq
  exact⟨r,w,G,.inl h1,qH C h2 (fun k hk=>C.csrc k (qv_refs hq k hk))⟩
end
structure St where
 tm:List (Nat×DV)
 ms:List (Nat×MO)
noncomputable def jx (l:List (Nat×DV)) (t:Nat):DV:=List.rec (motive:=fun _=>DV) .dead (fun p _ ih=>Bool.rec (motive:=fun _=>DV) ih p.2 (Nat.beq p.1 t)) l
noncomputable def qw (l:List (Nat×MO)) (t:Nat):Option MO:=List.rec (motive:=fun _=>Option MO) none (fun p _ ih=>Bool.rec (motive:=fun _=>Option MO) ih (some p.2) (Nat.beq p.1 t)) l
theorem getT_nil (t:Nat):jx [] t=.dead:=rfl
theorem ju (k:Nat) (d:DV) (l:List (Nat×DV)) (t:Nat):jx ((k,d)::l) t=if k=t then d else jx l t:=by
 show Bool.rec (motive:=fun _=>DV) (jx l t) d (Nat.beq k t)=_
 by_cases h:k=t
 ·subst h;rw[if_pos rfl,Nat.beq_refl]
 rw[if_neg h]
 have:Nat.beq k t=false:=Bool.eq_false_iff.mpr fun h'=>h (zE h')
 rw[this]
theorem lookM_eq:qw=ji:=by
 funext l t
 induction l with
 | nil=>rfl
 | cons p l ih=>
  obtain⟨k,o⟩:=p
  show Bool.rec (motive:=fun _=>Option MO) (qw l t) (some o) (Nat.beq k t)=_
  simp only[ji]
  by_cases h:k=t
  ·subst h;rw[if_pos rfl,Nat.beq_refl]
  rw[if_neg h]
  have:Nat.beq k t=false:=Bool.eq_false_iff.mpr fun h'=>h (zE h')
  rw[this];exact ih
noncomputable def St.vw (s:St):Vw:=⟨jx s.tm,qw s.ms⟩
def putT (l:List (Nat×DV)) (dst:Option Tmp) (d:DV):List (Nat×DV):=match dst with|some t=>(t,d)::l|none=>l
def St.put (s:St) (dst:Option Tmp) (d:DV) (ms:List (Nat×MO)):St:=⟨putT s.tm dst d,ms++s.ms⟩
theorem St.put_vw (s:St) (dst:Option Tmp) (d:DV) (ms:List (Nat×MO)):(s.put dst d ms).vw=(s.vw.setMs ms).setT dst d:=by
 unfold St.put St.vw Vw.setMs Vw.setT putT
 rw[lookM_eq]
 congr 1
 ·funext u
  cases dst with
  | none=>simp
  | some t=>simp only[ju,zh,eq_comm]
 funext u
 exact assocM_append _ _ _
noncomputable def evS (s:St):Operand->DV
 | .tmp t=>jx s.tm t
 | .const v=>cellDV v
 | .global _=>.dead
 | .func f=>.pv (.fn (.func f) [] [])
def tmpsOf (xs:List Operand):List Tmp:=xs.filterMap fun| .tmp t=>some t|_=>none
def stripT:Op->List Tmp
 | .pick c _ _=>tmpsOf [c]
 | op=>tmpsOf op.operands.toList
noncomputable def evG (op:Op) (s:St):Operand->DV
 | .tmp t=>match jx s.tm t with
  | .gd c d=>bif (stripT op).contains t then d else .gd c d
  | d=>d
 | x=>evS s x
noncomputable def sideT (s:St) (c:Bool):List Tmp->Bool
 | []=>true
 | t::ts=>match jx s.tm t with
  | .gd c' _=>(!c||c')&&sideT s c ts
  | _=>sideT s c ts
section
variable {P:Program} {Y:Tab} [qM P Y] {G:Gh} {w:World} {a:Act} {s:St}
theorem RelDV_cell (G:Gh) (R:Rd) (v:Value):qx G R (cellDV v) v:=by
 unfold cellDV
 split
 ·simp only[qx]
 split
 ·rename_i h;exact qL h
 simp only[qx]
theorem j7 (I:Inv G s.vw a w) (x:Operand):qx G (G.rd w) (evS s x) (a.eval x):=by
 cases x with
 | tmp t=>exact I.ts t
 | const v=>exact RelDV_cell _ _ v
 | global g=>simp only[evS,qx]
 | func f=>simp only[evS,qx,qN,Act.eval];exact⟨#[], #[],rfl,by simp[qy],by simp[qy]⟩
theorem evS_refs {x:Operand} {k:Nat} (h:k∈(evS s x).refs):∃ t,k∈(jx s.tm t).refs:=by
 cases x with
 | tmp t=>exact⟨t,h⟩
 | const v=>simp only[evS,kY] at h;cases h
 | global g=>simp[evS,DV.refs] at h
 | func f=>simp[evS,DV.refs] at h
theorem sideT_mem:∀ {ts:List Tmp} {c:Bool},sideT s c ts=true->c=true->∀ t∈ts,∀ c' d,jx s.tm t=.gd c' d->c'=true
 | [],_,_,_,t,ht,_,_,_=>by cases ht
 | u::ts,c,h,hc,t,ht,c',d,e=>by
  subst hc
  simp only[sideT] at h
  rcases zG.1 ht with rfl|ht'
  ·rw[e] at h
   simp only[Bool.not_true,Bool.false_or,zj] at h
   exact h.1
  split at h
  ·simp only[zj] at h
   exact sideT_mem h.2 Z t ht' c' d e
  exact sideT_mem h Z t ht' c' d e
theorem evG_sound (I:Inv G s.vw a w) {op:Op} (h:sideT s true (stripT op)=true) (x:Operand):qx G (G.rd w) (evG op s x) (a.eval x):=by
 cases x with
 | tmp t=>
  have ht:qx G (G.rd w) (jx s.tm t) (a.tmps.getD t undef):=I.ts t
  simp only[evG]
  split
  ·rename_i c d e
   rw[e] at ht
   cases hm:(stripT op).contains t with
   | true=>
    have:=sideT_mem h Z t (by simpa using hm) c d e
    simp only[qx] at ht
    exact ht.1 this
   | false=>exact ht
  exact ht
 | const v=>exact j7 I (.const v)
 | global g=>exact j7 I (.global g)
 | func f=>exact j7 I (.func f)
theorem evG_refs {op:Op} {x:Operand} {k:Nat} (h:k∈(evG op s x).refs):∃ t,k∈(jx s.tm t).refs:=by
 cases x with
 | tmp t=>
  refine⟨t,?_⟩
  simp only[evG] at h
  split at h
  ·rename_i c d e
   rw[e]
   cases hm:(stripT op).contains t with
   | true=>rw[hm] at h;simpa [DV.refs] using h
   | false=>rw[hm] at h;exact h
  exact h
 | const v=>exact evS_refs (s:=s) (x:=.const v) h
 | global g=>exact evS_refs (s:=s) (x:=.global g) h
 | func f=>exact evS_refs (s:=s) (x:=.func f) h
theorem Inv.ctx (I:Inv G s.vw a w) {op:Op} (h:sideT s true (stripT op)=true):Ctx G w a.eval (evG op s) (qw s.ms) (qw s.ms):=by
 refine⟨⟨evG_sound I h,fun h m hm=>I.ms h m hm,I.sees.1,I.sees.2⟩,fun h o ho=>ho,?_,I.fresh⟩
 rintro k (⟨x,hk⟩|⟨k',o,ho,hk⟩)
 ·obtain⟨t,ht⟩:=evG_refs hk
  exact I.refsT t k ht
 exact I.refsM k' o k ho hk
noncomputable def gcond (ops:Array Oper) (s:St):Option (Nat×Bool)->Option Bool
 | none=>some true
 | some (g,want)=>match (ops[g]?).bind (·.dst) with
  | some t=>match jx s.tm t with
   | .pv (.lit (.bool x))=>some (x==want)
   | .gd c (.pv (.lit (.bool x)))=>some (c&&x==want)
   | _=>none
  | none=>none
theorem gcond_sound {ops:Array Oper} {o:Oper} {c:Bool} (I:Inv G s.vw a w) (h:gcond ops s o.guard=some c):Region.wanted o (yielded ops a.tmps)=c:=by
 unfold Region.wanted
 cases hg:o.guard with
 | none=>rw[hg] at h;simpa [gcond] using h
 | some gw=>
  obtain⟨g,want⟩:=gw
  rw[hg] at h
  simp only[gcond] at h
  split at h
  ·rename_i t ht
   have hv:qx G (G.rd w) (jx s.tm t) (a.tmps.getD t undef):=I.ts t
   have hy:yielded ops a.tmps g=match a.tmps.getD t undef with| .bool b=>some b|_=>none:=by
    simp only[yielded,ht,zD,z7]
    rcases a.tmps[t]? with _|v
    ·rfl
    cases v<;>rfl
   simp only[hy]
   split at h
   ·rename_i x e
    rw[e] at hv
    rw[(qA hv).1]
    cases h
    cases x<;>cases want<;>rfl
   ·rename_i c' x e
    rw[e] at hv
    simp only[qx] at hv
    cases h
    cases c' with
    | true=>
     have:=(qA (G:=G) (R:=G.rd w) (by simpa only[qx] using hv.1 rfl)).1
     rw[this]
     cases x<;>cases want<;>rfl
    | false=>
     rw[hv.2 rfl]
     cases x<;>cases want<;>rfl
   cases h
  cases h
inductive Pre where
 | none
 | frz (xs:List Operand)
 | trunc (x:Operand)
def preOf (op:Op) (ev:Operand->DV):Pre:=
 match op with
 | .buildSlice _ _ parts=>.frz (parts.toList.map (·.2))
 | .insert _ _ _ x| .mapUpdate _ _ _ x=>.frz [x]
 | .slice _ x (some _) _ _=>.frz [x]
 | .store _ a x=>match ev a with
  | .eref _ _ _ _=>.frz [x]
  | _=>.trunc x
 | .call ⟨.builtin .append,⟨[x,_]⟩,_⟩=>.trunc x
 | _=>.none
def refsOf (ev:Operand->DV) (xs:List Operand):List Nat:=xs.flatMap fun x=>(ev x).refs
def evR (x:Operand) (d:DV) (ev:Operand->DV):Operand->DV
 | .tmp t=>match x with
  | .tmp u=>bif Nat.beq t u then d else ev (.tmp t)
  | _=>ev (.tmp t)
 | y=>ev y
def effV (Y:Tab) (nm:Nat) (dst:Option Tmp) (op:Op) (ev:Operand->DV) (look:Nat->Option MO):Option Out:=
 match op with
 | .call ⟨.builtin .unsafeString,⟨[p,n]⟩,⟨[pt,_]⟩⟩=>ustrV Y pt (ev p) (ev n) look
 | .convert s t x=>match s2bV Y s t (ev x) with
  | some out=>some out
  | none=>stepV Y nm dst (.convert s t x) ev look look
 | op=>
 match preOf op ev with
 | .none=>stepV Y nm dst op ev look look
 | .frz xs=>match frzU look (refsOf ev xs) with
  | []=>stepV Y nm dst op ev look look
  | fz=>match stepV Y nm dst op ev (upd fz look) (upd fz look) with
   | some ⟨s,v,ms⟩=>some ⟨s,v,mrg ms fz⟩
   | none=>none
 | .trunc x=>match truncU look (ev x) with
  | some (d,h,m)=>match stepV Y nm dst op (evR x d ev) (upd [(h,m)] look) (upd [(h,m)] look) with
   | some ⟨s,v,ms⟩=>some ⟨s,v,mrg ms [(h,m)]⟩
   | none=>none
  | none=>stepV Y nm dst op ev look look
theorem Ctx.mem {ρ:Operand->Value} {ev:Operand->DV} {look:Nat->Option MO} (C:Ctx G w ρ ev look look) (M:Zc G look w) {v:DV} {ms:List (Nat×MO)} {G1:Gh} {r:Value}
  (S:Stepped G w look v ms G1 w r):Ctx G1 w ρ ev (upd ms look) (upd ms look):=by
 have M1:=M.out S
 refine⟨⟨fun x=>?_,M1.ms,M1.readable.1,M1.readable.2⟩,fun _ _ h=>h,?_,M1.fresh⟩
 ·refine qx.mono (G:=G) S.later.rd _ _ (fun h hh=>?_) (C.sees.ev x)
  obtain⟨o,ho⟩:=C.csrc h (.inl ⟨x,hh⟩)
  exact S.keeps h o ho
 rintro k (⟨x,hk⟩|⟨k',o,ho,hk⟩)
 ·exact upd_some (.inr (C.csrc k (.inl ⟨x,hk⟩)))
 exact M1.refsM k' o k ho hk
theorem Ctx.set {ρ:Operand->Value} {ev:Operand->DV} {look:Nat->Option MO} (C:Ctx G w ρ ev look look) {x:Operand} {d:DV} (hd:qx G (G.rd w) d (ρ x)) (hr:∀ k∈d.refs,∃ o,look k=some o):Ctx G w ρ (evR x d ev) look look:=by
 refine⟨⟨fun y=>?_,C.sees.look,C.sees.cell,C.sees.map⟩,C.cfl,?_,C.cfresh⟩
 ·unfold evR
  split
  ·rename_i t
   split
   ·rename_i u
    cases hb:Nat.beq t u with
    | true=>have:=zE hb;subst this;exact hd
    | false=>exact C.sees.ev _
   exact C.sees.ev _
  exact C.sees.ev _
 rintro k (⟨y,hk⟩|hk)
 ·unfold evR at hk
  split at hk
  ·rename_i t
   split at hk
   ·rename_i u
    cases hb:Nat.beq t u with
    | true=>rw[hb] at hk;exact hr k hk
    | false=>rw[hb] at hk;exact C.csrc k (.inl ⟨_,hk⟩)
   exact C.csrc k (.inl ⟨_,hk⟩)
  exact C.csrc k (.inl ⟨_,hk⟩)
 exact C.csrc k (.inr hk)
theorem effV_sound {ρ:Operand->Value} {ev:Operand->DV} {look:Nat->Option MO} (C:Ctx G w ρ ev look look) (M:Zc G look w) {nm:Nat} {o:Oper} {out:Out}
  (h:effV Y nm o.dst o.op ev look=some out) (hs:out.side=true) :
  ∃ r w' G',((execOp ρ o).run P w=.ok (.value r) w'\/(execOp ρ o).run P w=.ok .skip w'/\r=undef)/\Stepped G w look out.val out.ms G' w' r:=by
 unfold effV at h
 split at h
 ·rename_i p n pt it hop
  obtain⟨r,w',G',h1,h2⟩:=ustrV_sound (P:=P) (it:=it) (ty:=o.type) C M.r0 M.r0m h
  refine⟨r,w',G',.inl ?_,h2⟩
  have h1':(Builtin.unsafeString_ #[pt,it] o.type (Array.map ρ ⟨[p,n]⟩)).run P w=.ok r w':=by simpa using h1
  have he:execOp ρ o=(do pure (Next.value (<-Builtin.unsafeString_ #[pt,it] o.type (Array.map ρ ⟨[p,n]⟩))):Sem Next):=by
   obtain⟨dst,op,ty,pos,after,guard⟩:=o
   simp only at hop
   subst hop
   rfl
  rw[he]
  simp only[qt,h1',qr,qu]
 ·rename_i s t x hop
  split at h
  ·rename_i out' hs2
   cases h
   obtain⟨r,w',G',h1,h2⟩:=s2bV_sound (P:=P) C M.baseLe hs2
   refine⟨r,w',G',.inl ?_,h2⟩
   have he:execOp ρ o=(do pure (Next.value (<-convert s t (ρ x))):Sem Next):=by
    obtain⟨dst,op,ty,pos,after,guard⟩:=o
    simp only at hop
    subst hop
    rfl
   rw[he]
   simp only[qt,h1,qr,qu]
  rw[<-hop] at h
  exact kw (P:=P) C h hs
 split at h
 ·exact kw (P:=P) C h hs
 ·rename_i xs _
  obtain⟨G1,S1⟩:=frzU_stepped (refsOf ev xs) M
  split at h
  ·exact kw (P:=P) C h hs
  split at h
  ·rename_i s v ms hst
   cases h
   obtain⟨r,w',G',h1,h2⟩:=kw (P:=P) (C.mem M S1) hst hs
   exact⟨r,w',G',h1,S1.trans M h2⟩
  cases h
 rename_i x _
 split at h
 ·rename_i d hh m ht
  obtain⟨G1,S1⟩:=trunc_stepped M (C.sees.ev x) ht
  split at h
  ·rename_i s v ms hst
   cases h
   have C1:=(C.mem M S1).set (x:=x) (d:=d) S1.hval (fun k hk=>upd_some (S1.refs k hk))
   obtain⟨r,w',G',h1,h2⟩:=kw (P:=P) C1 hst hs
   exact⟨r,w',G',h1,S1.trans M h2⟩
  cases h
 exact kw (P:=P) C h hs
noncomputable def freshN (ms:List (Nat×MO)):Nat->Nat->Nat
 | 0,n=>n
 | k+1,n=>match qw ms n with
  | none=>n
  | some _=>freshN ms k (n+397)
noncomputable def nameOf (nb:Nat) (ms:List (Nat×MO)):Option Tmp->Nat
 | some d=>freshN ms 50 (nb+d)
 | none=>nb
structure Since (K:Nat) (look:Nat->Option MO) (G:Gh) (w:World) (look':Nat->Option MO) (G':Gh) (w':World):Prop where
 later:Later G w G' w'
 keeps:∀ h o,h<K->look h=some o->G.keeps G' h/\∃ o',look' h=some o'
 newb:∀ b h,G'.γ b=some h->G.γ b=some h\/w.heap.size<=b
theorem Since.refl (K:Nat) (look:Nat->Option MO) (G:Gh) (w:World):Since K look G w look G w:=
 ⟨Later.refl _ _,fun _ o _ ho=>⟨.inl Z,o,ho⟩,fun _ _ h=>.inl h⟩
theorem Since.trans {K:Nat} {l l' l'':Nat->Option MO} {G G' G'':Gh} {w w' w'':World} (h:Since K l G w l' G' w') (k:Since K l' G' w' l'' G'' w''):Since K l G w l'' G'' w'':=by
 refine⟨h.later.trans k.later,fun n o hn ho=>?_,fun b n hb=>?_⟩
 ·obtain⟨h1,o',ho'⟩:=h.keeps n o hn ho
  obtain⟨h2,h3⟩:=k.keeps n o' hn ho'
  exact⟨h1.trans h2,h3⟩
 rcases k.newb b n hb with e|e
 ·exact h.newb b n e
 exact .inr (qh h.later.size e)
theorem Since.of {K:Nat} {look:Nat->Option MO} {v:DV} {ms:List (Nat×MO)} {G':Gh} {w':World} {r:Value} (S:Stepped G w look v ms G' w' r):Since K look G w (upd ms look) G' w':=
 ⟨S.later,fun h o _ ho=>⟨S.keeps h o ho,upd_some (.inr ⟨o,ho⟩)⟩,S.newb⟩
theorem St.put_look (s:St) (dst:Option Tmp) (d:DV) (ms:List (Nat×MO)):qw (s.put dst d ms).ms=upd ms (qw s.ms):=by
 have:=congrArg Vw.look (St.put_vw s dst d ms)
 exact this
theorem Inv.eff {K:Nat} (I:Inv G s.vw a w) {val:DV} {ms:List (Nat×MO)} {G':Gh} {w':World} {r:Value} (S:Stepped G w (qw s.ms) val ms G' w' r) (dst:Option Tmp) (hd:∀ d,dst=some d->d<a.tmps.size) :
  Inv G' (s.put dst val ms).vw (a.put dst r) w'/\Since K (qw s.ms) G w (qw (s.put dst val ms).ms) G' w':=by
 refine⟨by rw[St.put_vw];exact I.out S dst hd,?_⟩
 rw[St.put_look];exact Since.of S
theorem Stepped.gd {look:Nat->Option MO} {val:DV} {ms:List (Nat×MO)} {G':Gh} {w':World} {r:Value} (S:Stepped G w look val ms G' w' r):Stepped G w look (.gd true val) ms G' w' r:=
 { S with
  hval:=by simp only[qx];exact⟨fun _=>S.hval,fun h=>by cases h⟩
  refs:=fun k hk=>S.refs k (by simpa [DV.refs] using hk) }
theorem Inv.gone {K:Nat} (I:Inv G s.vw a w) (dst:Option Tmp) (hd:∀ d,dst=some d->d<a.tmps.size) (c:Bool) (hc:c=false) (val:DV) (hr:∀ h∈val.refs,∃ o,qw s.ms h=some o) :
  Inv G (s.put dst (.gd c val) []).vw (a.put dst undef) w/\Since K (qw s.ms) G w (qw (s.put dst (.gd c val) []).ms) G w:=by
 refine I.eff (r:=undef) ⟨Later.refl _ _,?_,by simp,fun h o _=>.inl rfl,fun h _=>⟨rfl,fun b hb=>⟨hb,rfl⟩⟩,I.fresh,fun b h hb=>.inr hb,fun h hh=>.inr (hr h aj),by simp,fun b h hb=>.inl hb,fun _ _ _ _ h=>.inl h,fun _ _ _ h=>.inl h⟩ dst hd
 simp only[qx]
 exact⟨fun h=>(by rw[hc] at h;cases h),fun _=>trivial⟩
end
def CallsAs (P:Program) (f:FuncId) (vs:Array Value) (w:World) (R:Value->World->Prop):Prop:=
 ((callFunc f vs).run P w=.ok (.enter f vs) w/\Calls P f vs w fun e w'=>∃ r,e=.returned r/\R r w')\/∃ r w',(callFunc f vs).run P w=.ok (.value r) w'/\R r w'
theorem CallsAs.mono {P:Program} {f:FuncId} {vs:Array Value} {w:World} {R R':Value->World->Prop} (h:CallsAs P f vs w R) (k:∀ r w',R r w'->R' r w'):CallsAs P f vs w R':=by
 rcases h with ⟨h1,h2⟩|⟨r,w',h1,h2⟩
 ·exact .inl ⟨h1,Calls.mono h2 fun e w' ⟨r,e1,e2⟩=>⟨r,e1,k _ _ e2⟩⟩
 exact .inr ⟨r,w',h1,k _ _ h2⟩
structure qD (P:Program) (f:FuncId) (ds:List DV) (look:Nat->Option MO) (val:DV) (ms:List (Nat×MO)):Prop where
 refs:∀ h∈DV.qP ds,∃ o,look h=some o
 call:∀ (G:Gh) (w:World) (vs:Array Value),Zc G look w->qC G (G.rd w) ds vs.toList->
  CallsAs P f vs w fun r w'=>∃ G',Stepped G w look val ms G' w' r
section
variable {P:Program} {G:Gh} {w:World} {a:Act} {s:St}
theorem Zc.rd_none {look:Nat->Option MO} (M:Zc G look w) {b o:Nat} {v:Value} (h:(G.rd w).cell b o=some v):G.γ b=none:=by
 simp only[Gh.rd] at h
 split at h
 ·rename_i hb;exact (M.r0 b o v hb h).1
 split at h
 ·assumption
 cases h
theorem Zc.rd_noneM {look:Nat->Option MO} (M:Zc G look w) {r:Nat} {es:Array MapEntry} (h:(G.rd w).map r=some es):G.γ r=none:=by
 simp only[Gh.rd] at h
 split at h
 ·rename_i hb;exact (M.r0m r es hb h).1
 split at h
 ·assumption
 cases h
def Gh.part (G:Gh) (w:World) (l:Nat->Option MO):Gh:=⟨w.heap.size,G.rd w,G.ρ,fun b=>match G.γ b with|some h=>if (l h).isSome then some h else none|none=>none⟩
section
variable {l L:Nat->Option MO}
theorem part_le (M:Zc G L w):(G.rd w).Le ((G.part w l).rd w):=by
 constructor
 ·intro b o v h
  show (if b<w.heap.size then (G.rd w).cell b o else _)=some v
  rw[if_pos (World.cell?_lt (M.readable.1 _ _ _ h))];exact h
 intro r es h
 show (if r<w.heap.size then (G.rd w).map r else _)=some es
 rw[if_pos (mapAt_lt (M.readable.2 _ _ h))];exact h
theorem Zc.part (M:Zc G L w) (hsub:∀ h o,l h=some o->L h=some o\/(o=.gone/\∃ o',L h=some o')) (hcl:∀ k o h,l k=some o->h∈o.refs->∃ o',l h=some o'):Zc (G.part w l) l w:=by
 have gc_none:∀ {b},G.γ b=none->(G.part w l).γ b=none:=fun {b} h=>by show (match G.γ b with|some h=>if (l h).isSome then some h else none|none=>none)=none;rw[h]
 have gc_in:∀ {b h},G.γ b=some h->(∃ o,l h=some o)->(G.part w l).γ b=some h:=fun {b h} e ⟨o,ho⟩=>by
  show (match G.γ b with|some h=>if (l h).isSome then some h else none|none=>none)=some h
  rw[e];simp[ho]
 have gc_some:∀ {b h},(G.part w l).γ b=some h->G.γ b=some h/\∃ o,l h=some o:=fun {b h} e=>by
  have e':(match G.γ b with|some h=>if (l h).isSome then some h else none|none=>none)=some h:=e
  split at e'
  ·rename_i k hk
   split at e'
   ·rename_i hs;cases e';exact⟨hk,Option.isSome_iff_exists.1 hs⟩
   cases e'
  cases e'
 exact⟨fun h o ho=>qY.monoR (part_le M) Z (fun b hb=>⟨gc_in hb ⟨o,ho⟩,rfl⟩) o (fun _ _=>.inl Z) ((hsub h o ho).elim (fun e=>M.ms h o e) (fun e=>by rw[e.1];trivial)),fun b h hb=>M.fresh b h (gc_some hb).1,fun b h hb=>(gc_some hb).2,hcl,
   fun b o v _ hv=>⟨gc_none (M.rd_none hv),M.readable.1 _ _ _ hv⟩,fun r es _ hv=>⟨gc_none (M.rd_noneM hv),M.readable.2 _ _ hv⟩,zC _,fun b o h=>let ⟨g,e⟩:=M.laid b o h;⟨gc_none g,e⟩⟩
theorem Stepped.frame {G1:Gh} {w':World} {val:DV} {ms:List (Nat×MO)} {r:Value} (M:Zc G L w) (hsub:∀ h o,l h=some o->L h=some o\/(o=.gone/\∃ o',L h=some o')) (hcl:∀ k o h,l k=some o->h∈o.refs->∃ o',l h=some o')
  (hnew:∀ h,h∈ms.map (·.1)->l h=none->L h=none) (S:Stepped (G.part w l) w l val ms G1 w' r):∃ G2,Stepped G w L val ms G2 w' r:=by
 have Mc:=M.part hsub hcl
 have lt_of:∀ {b o v},(G.rd w).cell b o=some v->b<w.heap.size:=fun h=>World.cell?_lt (M.readable.1 _ _ _ h)
 have lt_ofM:∀ {r es},(G.rd w).map r=some es->r<w.heap.size:=fun h=>mapAt_lt (M.readable.2 _ _ h)
 have gc_none:∀ {b},G.γ b=none->(G.part w l).γ b=none:=fun {b} h=>by show (match G.γ b with|some h=>if (l h).isSome then some h else none|none=>none)=none;rw[h]
 have gc_in:∀ {b h},G.γ b=some h->(∃ o,l h=some o)->(G.part w l).γ b=some h:=fun {b h} e ⟨o,ho⟩=>by
  show (match G.γ b with|some h=>if (l h).isSome then some h else none|none=>none)=some h
  rw[e];simp[ho]
 have gc_out:∀ {b h},G.γ b=some h->l h=none->(G.part w l).γ b=none:=fun {b h} e ho=>by
  show (match G.γ b with|some h=>if (l h).isSome then some h else none|none=>none)=none
  rw[e];simp[ho]
 have gc_some:∀ {b h},(G.part w l).γ b=some h->G.γ b=some h/\∃ o,l h=some o:=fun {b h} e=>by
  have e':(match G.γ b with|some h=>if (l h).isSome then some h else none|none=>none)=some h:=e
  split at e'
  ·rename_i k hk
   split at e'
   ·rename_i hs;cases e';exact⟨hk,Option.isSome_iff_exists.1 hs⟩
   cases e'
  cases e'
 have M1:=Mc.out S
 have b1:G1.base=w.heap.size:=S.later.base
 let G2:Gh:=⟨G.base,⟨fun b o=>if b<G.base then G1.R0.cell b o else G.R0.cell b o,fun r=>if r<G.base then G1.R0.map r else G.R0.map r⟩,G1.ρ,
  fun b=>match G1.γ b with|some h=>some h|none=>match G.γ b with|some h=>if (l h).isSome then none else some h|none=>none⟩
 have g2_1:∀ {b h},G1.γ b=some h->G2.γ b=some h:=fun {b h} e=>by
  show (match G1.γ b with|some h=>some h|none=>_)=some h;rw[e]
 have g2_out:∀ {b h},G1.γ b=none->G.γ b=some h->l h=none->G2.γ b=some h:=fun {b h} e e' ho=>by
  show (match G1.γ b with|some h=>some h|none=>match G.γ b with|some h=>if (l h).isSome then none else some h|none=>none)=some h
  rw[e,e'];simp[ho]
 have g2_none:∀ {b},G1.γ b=none->(∀ h,G.γ b=some h->∃ o,l h=some o)->G2.γ b=none:=fun {b} e k=>by
  show (match G1.γ b with|some h=>some h|none=>match G.γ b with|some h=>if (l h).isSome then none else some h|none=>none)=none
  rw[e]
  cases hg:G.γ b with
  | none=>rfl
  | some h=>obtain⟨o,ho⟩:=k h hg;simp[ho]
 have g2_some:∀ {b h},G2.γ b=some h->G1.γ b=some h\/(G1.γ b=none/\G.γ b=some h/\l h=none):=fun {b h} e=>by
  have e':(match G1.γ b with|some h=>some h|none=>match G.γ b with|some h=>if (l h).isSome then none else some h|none=>none)=some h:=e
  split at e'
  ·rename_i k hk;cases e';exact .inl hk
  rename_i hk
  split at e'
  ·rename_i k hk'
   split at e'
   ·cases e'
   rename_i hs;cases e';exact .inr ⟨hk,hk',by simpa using hs⟩
  cases e'
 have Rin:∀ {b o v},b<w.heap.size->G1.R0.cell b o=some v->((G.rd w).cell b o=some v/\G.γ b=none)\/∃ h o,G.γ b=some h/\l h=some o:=fun {b o v} hb hv=>by
  rcases S.later.R0c b o v hb hv with e|e
  ·exact .inl ⟨e,M.rd_none e⟩
  cases hg:(G.part w l).γ b with
  | none=>exact absurd hg e
  | some h=>obtain⟨h1,o',h2⟩:=gc_some hg;exact .inr ⟨h,o',h1,h2⟩
 have RinM:∀ {r es},r<w.heap.size->G1.R0.map r=some es->((G.rd w).map r=some es/\G.γ r=none)\/∃ h o,G.γ r=some h/\l h=some o:=fun {r es} hb hv=>by
  rcases S.later.R0m r es hb hv with e|e
  ·exact .inl ⟨e,M.rd_noneM e⟩
  cases hg:(G.part w l).γ r with
  | none=>exact absurd hg e
  | some h=>obtain⟨h1,o',h2⟩:=gc_some hg;exact .inr ⟨h,o',h1,h2⟩
 have in_of:∀ {b},(G.γ b=none\/∃ h o,G.γ b=some h/\l h=some o)->∀ h,G.γ b=some h->∃ o,l h=some o:=by
  rintro b (e|⟨k,o,e1,e2⟩) h hh
  ·rw[e] at hh;cases hh
  rw[e1] at hh;cases hh;exact⟨o,e2⟩
 have rd0:∀ {b o},b<G.base->(G.rd w).cell b o=G.R0.cell b o:=fun {b o} hb=>by simp only[Gh.rd,if_pos hb]
 have rd0m:∀ {r},r<G.base->(G.rd w).map r=G.R0.map r:=fun {r} hb=>by simp only[Gh.rd,if_pos hb]
 have rd2:(G1.rd w').Le (G2.rd w'):=by
  constructor
  ·intro b o v h
   simp only[Gh.rd,b1] at h
   show (if b<G.base then (if b<G.base then G1.R0.cell b o else G.R0.cell b o) else if G2.γ b=none then w'.cell? ⟨b,o,none⟩ else none)=some v
   split at h
   ·rename_i hlt
    by_cases hb:b<G.base
    ·rw[if_pos hb,if_pos hb];exact h
    obtain⟨e1,e2⟩:=M1.r0 b o v aO h
    rw[if_neg hb,if_pos (g2_none e1 (in_of ((Rin hlt h).imp And.right id)))];exact e2
   rename_i hlt
   split at h
   ·rename_i e1
    rw[if_neg (fun hb=>hlt (Nat.lt_of_lt_of_le hb M.baseLe)),if_pos (g2_none e1 fun k hk=>absurd (M.fresh b k hk) hlt)];exact h
   cases h
  intro b es h
  simp only[Gh.rd,b1] at h
  show (if b<G.base then (if b<G.base then G1.R0.map b else G.R0.map b) else if G2.γ b=none then j5 w' b else none)=some es
  split at h
  ·rename_i hlt
   by_cases hb:b<G.base
   ·rw[if_pos hb,if_pos hb];exact h
   obtain⟨e1,e2⟩:=M1.r0m b es aO h
   rw[if_neg hb,if_pos (g2_none e1 (in_of ((RinM hlt h).imp And.right id)))];exact e2
  rename_i hlt
  split at h
  ·rename_i e1
   rw[if_neg (fun hb=>hlt (Nat.lt_of_lt_of_le hb M.baseLe)),if_pos (g2_none e1 fun k hk=>absurd (M.fresh b k hk) hlt)];exact h
  cases h
 refine⟨G2,?_⟩
 refine⟨?_,qx.mono (G:=G1) rd2 val r (fun _ _=>.inl Z) S.hval,fun h o hm=>qY.monoR rd2 Z (fun b hb=>⟨g2_1 hb,rfl⟩) o (fun _ _=>.inl Z) (S.hms h o hm),fun h o ho=>?_,fun h hh=>⟨(S.old h hh).1,fun b hb=>?_⟩,
  fun b h hb=>?_,fun b h hb=>?_,fun h hh=>?_,fun k o hk h hh=>?_,fun b h hb=>?_,fun b o v hb hv=>?_,fun r es hb hv=>?_⟩
 ·refine⟨rfl,⟨fun b o v hv=>?_,fun r es hv=>?_⟩,fun b o v hlt hv=>?_,fun r es hlt hv=>?_,S.later.os,S.later.tape,S.later.output,S.later.size,fun b hb hg=>?_,S.later.drawn⟩
  ·show (if b<G.base then G1.R0.cell b o else G.R0.cell b o)=some v
   split
   ·rename_i hb;exact S.later.R0.cell b o v (by show (G.rd w).cell b o=some v;rw[rd0 hb];exact hv)
   exact hv
  ·show (if r<G.base then G1.R0.map r else G.R0.map r)=some es
   split
   ·rename_i hb;exact S.later.R0.map r es (by show (G.rd w).map r=some es;rw[rd0m hb];exact hv)
   exact hv
  ·have hv':(if b<G.base then G1.R0.cell b o else G.R0.cell b o)=some v:=hv
   split at hv'
   ·rename_i hb
    rcases Rin hlt hv' with ⟨e,_⟩|⟨h,_,e,_⟩
    ·rw[rd0 hb] at e;exact .inl e
    exact .inr aP
   exact .inl hv'
  ·have hv':(if r<G.base then G1.R0.map r else G.R0.map r)=some es:=hv
   split at hv'
   ·rename_i hb
    rcases RinM hlt hv' with ⟨e,_⟩|⟨h,_,e,_⟩
    ·rw[rd0m hb] at e;exact .inl e
    exact .inr aP
   exact .inl hv'
  obtain⟨e,g⟩:=S.later.cold b hb (gc_none hg)
  exact⟨e,g2_none g (fun h hh=>by rw[hg] at hh;cases hh)⟩
 ·cases hl:l h with
  | some o'=>exact S.keeps h o' hl
  | none=>
   by_cases hm:h∈ms.map (·.1)
   ·have:=hnew h hm hl;rw[this] at ho;cases ho
   exact .inl (S.old h hm).1
 ·cases hl:l h with
  | some o'=>obtain⟨e1,e2⟩:=(S.old h hh).2 b (gc_in hb ⟨o',hl⟩);exact⟨g2_1 e1,e2⟩
  | none=>obtain⟨e1,e2⟩:=S.later.cold b (M.fresh b h hb) (gc_out hb hl);exact⟨g2_out e2 hb hl,e1⟩
 ·rcases g2_some hb with e|⟨_,e,_⟩
  ·exact S.fresh b h e
  exact Nat.lt_of_lt_of_le (M.fresh b h e) S.later.size
 ·rcases g2_some hb with e|⟨_,e,_⟩
  ·exact (S.own b h e).imp id fun e=>(gc_some e).1
  exact .inr e
 ·exact (S.refs h hh).imp id fun ⟨o,ho⟩=>(hsub h o ho).elim (fun e=>⟨o,e⟩) (fun e=>e.2)
 ·exact (S.refsM k o hk h hh).imp id fun ⟨o,ho⟩=>(hsub h o ho).elim (fun e=>⟨o,e⟩) (fun e=>e.2)
 ·rcases g2_some hb with e|⟨_,e,_⟩
  ·exact (S.newb b h e).imp (fun e=>(gc_some e).1) id
  exact .inl e
 ·have hv':(if b<G.base then G1.R0.cell b o else G.R0.cell b o)=some v:=hv
  rw[if_pos hb] at hv'
  have hlt:=Nat.lt_of_lt_of_le hb M.baseLe
  rcases Rin hlt hv' with ⟨e,_⟩|e
  ·rw[rd0 hb] at e;exact .inl e
  obtain⟨e1,e2⟩:=M1.r0 b o v aO hv'
  exact .inr ⟨g2_none e1 (in_of (.inr e)),e2⟩
 have hv':(if r<G.base then G1.R0.map r else G.R0.map r)=some es:=hv
 rw[if_pos hb] at hv'
 have hlt:=Nat.lt_of_lt_of_le hb M.baseLe
 rcases RinM hlt hv' with ⟨e,_⟩|e
 ·rw[rd0m hb] at e;exact .inl e
 obtain⟨e1,e2⟩:=M1.r0m r es aO hv'
 exact .inr ⟨g2_none e1 (in_of (.inr e)),e2⟩
end
theorem qD.frame {f:FuncId} {ds:List DV} {l L:Nat->Option MO} {val:DV} {ms:List (Nat×MO)} (H:qD P f ds l val ms)
  (hsub:∀ h o,l h=some o->L h=some o) (hcl:∀ k o h,l k=some o->h∈o.refs->∃ o',l h=some o') (hnew:∀ h,h∈ms.map (·.1)->l h=none->L h=none):qD P f ds L val ms:=by
 refine⟨fun h hh=>let ⟨o,ho⟩:=H.refs h hh;⟨o,hsub h o ho⟩,fun G w vs M hv=>?_⟩
 refine CallsAs.mono (H.call (G.part w l) w vs (M.part (fun h o e=>.inl (hsub h o e)) hcl) (qC.mono (G:=G) (part_le M) ds _ (fun _ _=>.inl Z) hv)) ?_
 rintro r w' ⟨G1,S⟩
 obtain⟨G2,S2⟩:=S.frame M (fun h o e=>.inl (hsub h o e)) hcl hnew
 exact⟨G2,S2⟩
theorem Since.close {K:Nat} {look:Nat->Option MO} {σ':Vw} {a':Act} {G':Gh} {w':World} {val:DV} {r:Value} {ms:List (Nat×MO)}
  (M:Zc G look w) (I':Inv G' σ' a' w') (Sn:Since K look G w σ'.look G' w') (hK:∀ h o,look h=some o->h<K) (hv:qx G' (G'.rd w') val r)
  (hms:∀ h o,(h,o)∈ms->σ'.look h=some o) (hold:∀ h o,look h=some o->h∈ms.map (·.1)) (hval:∀ h∈val.refs,h∈ms.map (·.1)) (hcl:∀ k o,(k,o)∈ms->∀ h∈o.refs,h∈ms.map (·.1)) :
  ∃ G'',Stepped G w look val ms G'' w' r:=by
 classical
 let G2:Gh:={ G' with
  ρ:=fun h=>if h∈ms.map (·.1) then G'.ρ h else G.ρ h
  γ:=fun b=>match G'.γ b with|some h=>if h∈ms.map (·.1) then some h else none|none=>none }
 have ρin:∀ {h},h∈ms.map (·.1)->G2.ρ h=G'.ρ h:=fun {h} hh=>if_pos hh
 have ρout:∀ {h},h∉ms.map (·.1)->G2.ρ h=G.ρ h:=fun {h} hh=>if_neg hh
 have γnone:∀ {b},G'.γ b=none->G2.γ b=none:=fun {b} e=>by
  show (match G'.γ b with|some h=>if h∈ms.map (·.1) then some h else none|none=>none)=none;rw[e]
 have γsome:∀ {b h},G2.γ b=some h->G'.γ b=some h/\h∈ms.map (·.1):=fun {b h} e=>by
  have e':(match G'.γ b with|some h=>if h∈ms.map (·.1) then some h else none|none=>none)=some h:=e
  split at e'
  ·rename_i k hk
   split at e'
   ·rename_i hm;cases e';exact⟨hk,hm⟩
   cases e'
  cases e'
 have γin:∀ {b h},G'.γ b=some h->h∈ms.map (·.1)->G2.γ b=some h:=fun {b h} e hm=>by
  show (match G'.γ b with|some h=>if h∈ms.map (·.1) then some h else none|none=>none)=some h;rw[e];exact if_pos hm
 have L2:Later G' w' G2 w':=Later.of Z Z Z Z Z (zC _) fun b _ hg=>⟨rfl,γnone hg⟩
 refine⟨G2,Sn.later.trans L2,qx.mono L2.rd _ _ (fun h hh=>.inl (ρin (hval h hh))) hv,fun h o hm=>?_,fun h o ho=>?_,fun h hh=>⟨ρout hh,fun b hb=>?_⟩,fun b h hb=>I'.fresh b h (γsome hb).1,fun b h hb=>.inl (γsome hb).2,
  fun h hh=>.inl (hval h hh),fun k o hk h hh=>.inl (hcl k o hk h hh),fun b h hb=>Sn.newb b h (γsome hb).1,fun b o v hb hv'=>?_,fun r es hb hv'=>?_⟩
 ·have hmem:h∈ms.map (·.1):=zF.2 ⟨_,hm,rfl⟩
  exact qY.mono L2 (ρin hmem) (fun b hb=>⟨γin hb hmem,rfl⟩) o (fun k hk=>.inl (ρin (hcl h o hm k hk))) (I'.ms h o (hms h o hm))
 ·have:=(Sn.keeps h o (hK h o ho) ho).1
  rcases this with e|⟨e1,e2⟩
  ·exact .inl ((ρin (hold h o ho)).trans e)
  exact .inr ⟨e1,by rw[ρin (hold h o ho)];exact e2⟩
 ·obtain⟨o,ho⟩:=M.own b h hb
  exact absurd (hold h o ho) hh
 ·have hb':b<G'.base:=by rw[Sn.later.base];exact hb
  obtain⟨e1,e2⟩:=I'.r0 b o v hb' hv'
  exact .inr ⟨γnone e1,e2⟩
 have hb':r<G'.base:=by rw[Sn.later.base];exact hb
 obtain⟨e1,e2⟩:=I'.r0m r es hb' hv'
 exact .inr ⟨γnone e1,e2⟩
theorem Inv.keep (I:Inv G s.vw a w) {K:Nat} {ms:List (Nat×MO)} {tm:List (Nat×DV)} (htm:∀ t,jx tm t=jx s.tm t\/jx tm t=.dead) (hms:∀ h o,qw ms h=some o->qw s.ms h=some o)
  (hK:∀ h o,h<K->qw s.ms h=some o->∃ o',qw ms h=some o') (ht:∀ t,∀ h∈(jx tm t).refs,∃ o,qw ms h=some o) (hcl:∀ k o,qw ms k=some o->∀ h∈o.refs,∃ o',qw ms h=some o') :
  ∃ G',Inv G' (St.vw ⟨tm,ms⟩) a w/\Since K (qw s.ms) G w (qw ms) G' w:=by
 let G2:Gh:={ G with γ:=fun b=>match G.γ b with|some h=>if (qw ms h).isSome then some h else none|none=>none }
 have γnone:∀ {b},G.γ b=none->G2.γ b=none:=fun {b} e=>by
  show (match G.γ b with|some h=>if (qw ms h).isSome then some h else none|none=>none)=none;rw[e]
 have γsome:∀ {b h},G2.γ b=some h->G.γ b=some h/\∃ o,qw ms h=some o:=fun {b h} e=>by
  have e':(match G.γ b with|some h=>if (qw ms h).isSome then some h else none|none=>none)=some h:=e
  split at e'
  ·rename_i k hk
   split at e'
   ·rename_i hm;cases e';exact⟨hk,Option.isSome_iff_exists.1 hm⟩
   cases e'
  cases e'
 have γin:∀ {b h},G.γ b=some h->(∃ o,qw ms h=some o)->G2.γ b=some h:=fun {b h} e ⟨o,ho⟩=>by
  show (match G.γ b with|some h=>if (qw ms h).isSome then some h else none|none=>none)=some h;rw[e];simp[ho]
 have L2:Later G w G2 w:=Later.of Z Z Z Z Z (zC _) fun b _ hg=>⟨rfl,γnone hg⟩
 refine⟨G2,⟨fun t=>?_,fun t hl=>?_,fun h o ho=>?_,fun b h hb=>I.fresh b h (γsome hb).1,fun b h hb=>(γsome hb).2,ht,fun k o h hk hh=>hcl k o hk h hh,fun b o v hb hv=>?_,fun r es hb hv=>?_,I.baseLe,fun b o h=>let ⟨g,e⟩:=I.laid b o h;⟨γnone g,e⟩⟩,L2,fun h o hk ho=>⟨.inl Z,hK h o hk ho⟩,fun b h hb=>.inl (γsome hb).1⟩
 ·show qx G2 (G2.rd w) (jx tm t) _
  rcases htm t with e|e
  ·rw[e];exact qx.mono (G:=G) L2.rd _ _ (fun _ _=>.inl Z) (I.ts t)
  rw[e];simp only[qx]
 ·show jx tm t=.dead
  rcases htm t with e|e
  ·rw[e];exact I.size t hl
  exact e
 ·exact qY.mono L2 Z (fun b hb=>⟨γin hb ⟨o,ho⟩,rfl⟩) o (fun _ _=>.inl Z) (I.ms h o (hms h o ho))
 ·obtain⟨h1,h2⟩:=I.r0 b o v hb hv
  exact⟨γnone h1,h2⟩
 obtain⟨h1,h2⟩:=I.r0m r es hb hv
 exact⟨γnone h1,h2⟩
end
noncomputable def sel (ms:List (Nat×MO)):List Nat->List (Nat×MO)
 | []=>[]
 | h::ns=>match qw ms h with
  | some o=>(h,o)::sel ms ns
  | none=>sel ms ns
theorem qG (k:Nat) (o:MO) (l:List (Nat×MO)) (h:Nat):qw ((k,o)::l) h=if k=h then some o else qw l h:=by
 rw[lookM_eq];rfl
theorem sel_mem {ms:List (Nat×MO)}:∀ {ns:List Nat} {h:Nat} {o:MO},(h,o)∈sel ms ns->qw ms h=some o
 | [],h,o,hm=>by cases hm
 | k::ns,h,o,hm=>by
  simp only[sel] at hm
  split at hm
  ·rename_i o' ho'
   rcases zG.1 hm with e|e
   ·cases e;exact ho'
   exact sel_mem e
  exact sel_mem hm
theorem jt {ms:List (Nat×MO)} {h:Nat} {o:MO} (e:qw ms h=some o):(h,o)∈ms:=by
 rw[lookM_eq] at e;exact jJ e
theorem sel_sub {ms:List (Nat×MO)} {ns:List Nat} {h:Nat} {o:MO} (e:qw (sel ms ns) h=some o):qw ms h=some o:=sel_mem (jt e)
noncomputable def reachX (ms:List (Nat×MO)):Nat->List Nat->List Nat->List Nat
 | 0,_,seen=>seen
 | _+1,[],seen=>seen
 | n+1,h::l,seen=>bif seen.any (Nat.beq h) then reachX ms n l seen else
  match qw ms h with
  | some o=>reachX ms n (o.refs++l) (h::seen)
  | none=>reachX ms n l seen
noncomputable def j8 (ms:List (Nat×MO)) (h:Nat):Bool:=match qw ms h with|some _=>true|none=>false
theorem ke {ms:List (Nat×MO)} {h:Nat}:j8 ms h=true↔∃ o,qw ms h=some o:=by
 unfold j8
 cases qw ms h<;>simp
noncomputable def jm (ms:List (Nat×MO)):Bool:=ms.all fun p=>p.2.refs.all (j8 ms)
theorem jP {ms:List (Nat×MO)} (h:jm ms=true):∀ k o,qw ms k=some o->∀ j∈o.refs,∃ o',qw ms j=some o':=by
 intro k o hk j hj
 have:=zr.1 h _ (jt hk)
 exact ke.1 (zr.1 this j hj)
def testB (m t:Nat):Bool:=Nat.beq (Nat.land (Nat.shiftRight m t) 1) 1
theorem testB_eq (m t:Nat):testB m t=Nat.testBit m t:=by
 show Nat.beq ((m >>> t) &&&1) 1=((1 &&&(m >>> t)) != 0)
 rw[Nat.and_comm,Nat.one_and_eq_mod_two]
 rcases Nat.mod_two_eq_zero_or_one (m >>> t) with h|h<;>rw[h]<;>rfl
noncomputable def keepF (m:Nat) (l:List (Nat×DV)):List (Nat×DV):=
 List.rec (motive:=fun _=>Nat->List (Nat×DV)) (fun _=>[]) (fun p _ ih m=>Bool.rec (motive:=fun _=>List (Nat×DV)) (ih m) (p::ih (Nat.xor m (Nat.pow 2 p.1))) (testB m p.1)) l m
theorem keepF_cons (m t:Nat) (d:DV) (l:List (Nat×DV)):keepF m ((t,d)::l)=if Nat.testBit m t then (t,d)::keepF (m ^^^ 2 ^ t) l else keepF m l:=by
 show Bool.rec (motive:=fun _=>List (Nat×DV)) (keepF m l) ((t,d)::keepF (m ^^^ 2 ^ t) l) (testB m t)=_
 rw[testB_eq]
 cases Nat.testBit m t<;>rfl
theorem getT_keepF:∀ (l:List (Nat×DV)) (m t:Nat),jx (keepF m l) t=if Nat.testBit m t then jx l t else .dead
 | [],m,t=>by simp[keepF,getT_nil]
 | (k,d)::l,m,t=>by
  rw[keepF_cons]
  cases hk:Nat.testBit m k with
  | true=>
   simp only[qp,ju]
   by_cases e:k=t
   ·subst e;simp[hk]
   rw[if_neg e,if_neg e,getT_keepF l]
   have:Nat.testBit (m ^^^ 2 ^ k) t=Nat.testBit m t:=by
    rw[Nat.testBit_xor,Nat.testBit_two_pow];simp[e]
   rw[this]
  | false=>
   simp only[qo,qq,ju,getT_keepF l]
   by_cases e:k=t
   ·subst e;simp[hk]
   rw[if_neg e]
def maxN:List (Nat×MO)->Nat->Nat
 | [],m=>m
 | (k,_)::l,m=>maxN l (bif Nat.ble m k then k else m)
abbrev Orc:=FuncId->Nat->List DV->List (Nat×MO)->Option (DV×List (Nat×MO))
def OrcOk (P:Program) (O:Orc):Prop:=∀ f lo ds l val ms,O f lo ds l=some (val,ms)->qD P f ds (qw l) val ms
def tgtX (d:DV):Option (FuncId×List DV×List DV):=
 match d with
 | .pv (.fn (.func fid) first caps)=>some (fid,first.map .pv,caps.map .pv)
 | .clos (.func fid) first caps=>some (fid,first,caps)
 | _=>none
noncomputable def callE (O:Orc) (lo:Nat) (c:Call) (ev:Operand->DV) (ms:List (Nat×MO)):Option (DV×List (Nat×MO)):=
 match c.callee with
 | .value f=>
  match tgtX (ev f) with
  | some (fid,first,caps)=>
   let ds:=first++c.args.toList.map ev++caps
   match DV.qP ds with
   | []=>match O fid lo ds [] with
    | some (val,out)=>bif out.all (fun p=>!j8 ms p.1) then some (val,out) else none
    | none=>none
   | rs=>
    let l:=sel ms (reachX ms 10000 rs [])
    bif jm l then
     match O fid lo ds l with
     | some (val,out)=>bif out.all (fun p=>j8 l p.1||!j8 ms p.1) then some (val,out) else none
     | none=>none
    else none
  | none=>none
 | _=>none
noncomputable def genE (O:Orc) (Y:Tab) (lo nm:Nat) (o:Oper) (ev:Operand->DV) (ms:List (Nat×MO)):Option (DV×List (Nat×MO)):=
 match o.op with
 | .call c=>match c.callee with
  | .builtin _=>match effV Y nm o.dst o.op ev (qw ms) with
   | some ⟨true,v,m⟩=>some (v,m)
   | _=>none
  | _=>callE O lo c ev ms
 | _=>match effV Y nm o.dst o.op ev (qw ms) with
  | some ⟨true,v,m⟩=>some (v,m)
  | _=>none
def qE (r:Option (Bool×DV)):Option (DV×List (Nat×MO)):=
 match r with
 | some (true,d)=>some (d,[])
 | _=>none
def mvE (d:DV):Option (DV×List (Nat×MO)):=
 match d with
 | .dead=>none
 | d=>some (d,[])
def binE (Y:Tab) (op:BinOp) (t:TypeId) (look:Nat->Option MO) (cn:Bool) (x y:DV):Option (DV×List (Nat×MO)):=qE (binW Y op t look cn x y)
def ileF (a b:Int):Bool:=match a,b with
 | .ofNat x,.ofNat y=>Nat.ble x y
 | .ofNat _,.negSucc _=>false
 | .negSucc _,.ofNat _=>true
 | .negSucc x,.negSucc y=>Nat.ble y x
theorem ileF_eq (a b:Int):ileF a b=decide (a<=b):=by
 rw[zM,decide_eq_true_iff]
 rcases a with x|x<;>rcases b with y|y
 ·show Nat.ble x y=true↔_;rw[Nat.ble_eq];show x<=y↔(x:Int)<=y;omega
 ·show false=true↔_;constructor
  ·intro h;cases h
  intro h;have:(x:Int)<=Int.negSucc y:=h;omega
 ·show true=true↔_;constructor
  ·intro _;show Int.negSucc x<=(y:Int);omega
  intro _;rfl
 show Nat.ble y x=true↔_;rw[Nat.ble_eq];omega
def ieqF (a b:Int):Bool:=match a,b with
 | .ofNat x,.ofNat y=>Nat.beq x y
 | .ofNat _,.negSucc _=>false
 | .negSucc _,.ofNat _=>false
 | .negSucc x,.negSucc y=>Nat.beq x y
theorem ieqF_eq (a b:Int):ieqF a b=(a==b):=by
 rw[zM,beq_iff_eq]
 rcases a with x|x<;>rcases b with y|y
 ·show Nat.beq x y=true↔_;rw[Nat.beq_eq];show x=y↔(x:Int)=y;omega
 ·show false=true↔_;constructor
  ·intro h;cases h
  intro h;cases h
 ·show false=true↔_;constructor
  ·intro h;cases h
  intro h;cases h
 show Nat.beq x y=true↔_;rw[Nat.beq_eq];omega
def bB (b:Bool):Option (DV×List (Nat×MO)):=some (lit (.bool b),[])
def r64 (n:Int):Option (DV×List (Nat×MO)):=match n with
 | .ofNat x=>bif Nat.blt x 9223372036854775808 then some (lit (.int .i64 (.ofNat x)),[]) else none
 | .negSucc x=>bif Nat.blt x 9223372036854775808 then some (lit (.int .i64 (.negSucc x)),[]) else none
theorem r64_eq (n:Int):r64 n=qE (some (in64 n,lit (.int .i64 n))):=by
 have h:in64 n=(match n with| .ofNat x=>Nat.blt x 9223372036854775808| .negSucc x=>Nat.blt x 9223372036854775808):=by
  unfold in64
  rw[zM,decide_eq_true_iff]
  rcases n with x|x<;>simp only[Nat.blt_eq,Int.ofNat_eq_natCast]<;>omega
 rw[h]
 rcases n with x|x<;>simp only[r64,qE]<;>cases Nat.blt x 9223372036854775808<;>rfl
def i64F (Y:Tab) (op:BinOp) (t:TypeId) (a b:Int):Option (DV×List (Nat×MO)):=
 match op with
 | .add=>r64 (Int.add a b)
 | .sub=>r64 (Int.sub a b)
 | .mul=>r64 (Int.mul a b)
 | .eql=>bB (ieqF a b)
 | .neq=>bB (not (ieqF a b))
 | .lss=>bB (not (ileF b a))
 | .leq=>bB (ileF a b)
 | .gtr=>bB (not (ileF a b))
 | .geq=>bB (ileF b a)
 | op=>qE (binQ Y op t (lit (.int .i64 a)) (lit (.int .i64 b)))
theorem i64F_eq (Y:Tab) (op:BinOp) (t:TypeId) (a b:Int):i64F Y op t a b=qE (binQ Y op t (lit (.int .i64 a)) (lit (.int .i64 b))):=by
 have h1:∀ x y:Int,(!decide (y<=x))=decide (x<y):=by
  intro x y;rw[zM];simp
 cases op<;>first
  | rfl
  | (simp only[i64F,r64_eq];rfl)
  | (simp only[i64F,bB,ieqF_eq,ileF_eq,h1];rfl)
def binF (Y:Tab) (op:BinOp) (t:TypeId) (look:Nat->Option MO) (cn:Bool) (x y:DV):Option (DV×List (Nat×MO)):=
 match x with
 | .pv (.lit (.int .i64 a))=>match y with
  | .pv (.lit (.int .i64 b))=>i64F Y op t a b
  | y=>binE Y op t look cn (.pv (.lit (.int .i64 a))) y
 | x=>binE Y op t look cn x y
theorem binF_eq:binF=binE:=by
 funext Y op t look cn x y
 unfold binF
 split
 ·split
  ·rw[i64F_eq];rfl
  rfl
 rfl
def extE (d:DV) (i:Nat):Option (DV×List (Nat×MO)):=
 qE (match d with
  | .tup ds=>match ds[i]? with
   | some d=>some (true,d)
   | none=>none
  | _=>none)
noncomputable def effX (O:Orc) (Y:Tab) (lo nm:Nat) (o:Oper) (ev:Operand->DV) (ms:List (Nat×MO)):Option (DV×List (Nat×MO)):=
 match o.op with
 | .move x=>mvE (ev x)
 | .assign x=>mvE (ev x)
 | .binOp op t x y _=>binF Y op t (qw ms) (kP y) (ev x) (ev y)
 | .load t a=>qE (Zh Y t (qw ms) (ev a))
 | .fieldAddr t x f=>qE (jK Y t f (qw ms) (ev x))
 | .extract x i=>extE (ev x) i
 | .indexAddr t x i=>qE (jT Y t (qw ms) (ev x) (ev i))
 | .index t x i=>qE (indexQ Y t (ev x) (ev i))
 | .convert s t x=>match s2bV Y s t (ev x) with
  | some ⟨true,v,m⟩=>some (v,m)
  | some _=>none
  | none=>qE (convW Y s t (qw ms) (ev x))
 | .unOp op _ x=>qE (unQ op (ev x))
 | _=>genE O Y lo nm o ev ms
theorem lift_qE (r:Option (Bool×DV)):(match Zl r with|some ⟨true,v,m⟩=>some (v,m)|_=>none)=qE r:=by
 unfold Zl qE
 rcases r with _|⟨b,d⟩
 ·rfl
 cases b<;>rfl
theorem effX_eq (O:Orc) (Y:Tab) (lo nm:Nat) (o:Oper) (ev:Operand->DV) (ms:List (Nat×MO)):effX O Y lo nm o ev ms=genE O Y lo nm o ev ms:=by
 obtain⟨dst,op,ty,pos,after,guard⟩:=o
 have quick:∀ {r:Option (Bool×DV)},stepV Y nm dst op ev (qw ms) (qw ms)=Zl r->effV Y nm dst op ev (qw ms)=stepV Y nm dst op ev (qw ms) (qw ms)->
   (match effV Y nm dst op ev (qw ms) with|some ⟨true,v,m⟩=>some (v,m)|_=>none)=qE r:=by
  intro r h1 h2
  rw[h2,h1];exact lift_qE r
 have hconv:∀ s t x,(match s2bV Y s t (ev x) with|some ⟨true,v,m⟩=>some (v,m)|some _=>none|none=>qE (convW Y s t (qw ms) (ev x))) =
   (match effV Y nm dst (.convert s t x) ev (qw ms) with|some ⟨true,v,m⟩=>some (v,m)|_=>none):=by
  intro s t x
  simp only[effV]
  rcases s2bV Y s t (ev x) with _|⟨b,v,m⟩
  ·exact (lift_qE _).symm
  cases b<;>rfl
 cases op<;>first
  | rfl
  | (simp only[effX,genE];first
    | (exact (quick (r:=match ev _ with| .dead=>none|d=>some (true,d)) Z Z).symm▸(by unfold mvE qE;split<;>simp_all))
    | (rw[binF_eq];exact (quick Z Z).symm)
    | exact hconv _ _ _
    | exact (quick Z Z).symm)
section
variable {P:Program} {Y:Tab} [qM P Y] {O:Orc} {G:Gh} {w:World} {a:Act} {s:St}
theorem allHas {l ms:List (Nat×MO)} {out:List (Nat×MO)} (h:out.all (fun p=>j8 l p.1||!j8 ms p.1)=true):∀ h,h∈out.map (·.1)->qw l h=none->qw ms h=none:=by
 intro k hk hl
 obtain⟨p,hp,rfl⟩:=zF.1 hk
 have:=zr.1 h p hp
 simp only[Bool.or_eq_true,Bool.not_eq_true'] at this
 rcases this with e|e
 ·obtain⟨o,ho⟩:=ke.1 e;rw[ho] at hl;cases hl
 unfold j8 at e
 split at e
 ·cases e
 assumption
theorem tgtX_sound {R:Rd} {d:DV} {v:Value} {fid:FuncId} {first caps:List DV} (h:tgtX d=some (fid,first,caps)) (hv:qx G R d v) :
  ∃ x y,v=.func (.func fid) x y/\qC G R first x.toList/\qC G R caps y.toList:=by
 unfold tgtX at h
 split at h
 ·cases h
  simp only[qx,qN] at hv
  obtain⟨x,y,e,h1,h2⟩:=hv
  exact⟨x,y,e,kE.2 h1,kE.2 h2⟩
 ·cases h
  simp only[qx] at hv
  exact hv
 cases h
theorem callE_ok (hO:OrcOk P O) {c:Call} {ev:Operand->DV} {ms:List (Nat×MO)} {val:DV} {out:List (Nat×MO)} {lo:Nat} (h:callE O lo c ev ms=some (val,out)) :
  ∃ f fid first caps,c.callee=.value f/\tgtX (ev f)=some (fid,first,caps)/\qD P fid (first++c.args.toList.map ev++caps) (qw ms) val out:=by
 unfold callE at h
 split at h
 ·rename_i f hc
  split at h
  ·rename_i fid first caps ht
   refine⟨f,fid,first,caps,hc,ht,?_⟩
   simp only at h
   split at h
   ·rename_i hr
    split at h
    ·rename_i v o ho
     cases hq:o.all (fun p=>!j8 ms p.1) with
     | false=>rw[hq] at h;cases h
     | true=>
      rw[hq] at h
      cases h
      refine (hO _ _ _ _ _ _ ho).frame (fun h o e=>by cases e) (fun k o h e=>by cases e) ?_
      refine allHas (l:=[]) ?_
      rw[<-hq]
      apply congrArg (List.all out)
      funext p
      simp[j8,lookM_eq,ji]
    cases h
   rename_i rs hr
   cases hcl:jm (sel ms (reachX ms 10000 (DV.qP (first++c.args.toList.map ev++caps)) [])) with
   | false=>rw[hcl] at h;cases h
   | true=>
    rw[hcl] at h
    simp only[cond_true] at h
    split at h
    ·rename_i v o ho
     cases hq:o.all (fun p=>j8 (sel ms (reachX ms 10000 (DV.qP (first++c.args.toList.map ev++caps)) [])) p.1||!j8 ms p.1) with
     | false=>rw[hq] at h;cases h
     | true=>
      rw[hq] at h
      cases h
      exact (hO _ _ _ _ _ _ ho).frame (fun h o e=>sel_sub e) (fun k o h e hh=>jP hcl k o e h hh) (allHas hq)
    cases h
  cases h
 cases h
theorem effX_sound (hO:OrcOk P O) {ev:Operand->DV} {ms:List (Nat×MO)} (C:Ctx G w a.eval ev (qw ms) (qw ms)) (M:Zc G (qw ms) w) {lo nm:Nat} {o:Oper} {val:DV} {m:List (Nat×MO)}
  (h:effX O Y lo nm o ev ms=some (val,m)) {next:Act->World->Prop} {Q:Exit->Act->World->Prop}
  (hn:∀ r w' G',Stepped G w (qw ms) val m G' w' r->next (a.put o.dst r) w'):o.wp P a w next Q:=by
 have plain:(match effV Y nm o.dst o.op ev (qw ms) with|some ⟨true,v,m⟩=>some (v,m)|_=>none)=some (val,m)->o.wp P a w next Q:=by
  intro h
  split at h
  ·rename_i v m' he
   cases h
   obtain⟨r,w',G',hrun,S⟩:=effV_sound (P:=P) C M he rfl
   have:=hn r w' G' S
   unfold Oper.wp
   rcases hrun with hrun|⟨hrun,rfl⟩
   ·rw[hrun];exact this
   rw[hrun];exact this
  cases h
 rw[effX_eq] at h
 unfold genE at h
 split at h
 ·rename_i c hc
  split at h
  ·exact plain h
  obtain⟨f,fid,first,caps,hcal,ht,H⟩:=callE_ok hO h
  obtain⟨x,y,ef,h1,h2⟩:=tgtX_sound ht (C.sees.ev f)
  have hargs:qC G (G.rd w) (c.args.toList.map ev) (c.args.toList.map a.eval):=ky C.sees _
  have hall:qC G (G.rd w) (first++c.args.toList.map ev++caps) (x++c.args.map a.eval++y).toList:=by
   simp only[Array.toList_append,Array.toList_map]
   exact (h1.append hargs).append h2
  have hexec:(execOp a.eval o).run P w=(callFunc fid (x++c.args.map a.eval++y)).run P w:=by
   simp only[execOp,hc,resolve,hcal,ef,Deferred.ofValue,qt,qu,qr,invoke]
  unfold Oper.wp
  rcases H.call G w _ M hall with ⟨he,hcalls⟩|⟨r,w',he,G',S⟩
  ·rw[hexec,he,Oper.upon_enter]
   refine Calls.mono hcalls ?_
   rintro e w'' ⟨r,rfl,G',S⟩
   exact hn r w'' G' S
  rw[hexec,he]
  exact hn r w' G' S
 exact plain h
def dstOk (n:Nat) (d:Option Tmp):Bool:=match d with|some d=>Nat.blt d n|none=>true
theorem dstOk_lt {n:Nat} {d:Option Tmp} (h:dstOk n d=true) (hn:a.tmps.size=n):∀ t,d=some t->t<a.tmps.size:=by
 intro t ht
 subst ht
 rw[hn]
 simpa [dstOk,Nat.blt_eq] using h
theorem Inv.ctxS (I:Inv G s.vw a w):Ctx G w a.eval (evS s) (qw s.ms) (qw s.ms):=by
 refine⟨⟨j7 I,fun h m hm=>I.ms h m hm,I.sees.1,I.sees.2⟩,fun h o ho=>ho,?_,I.fresh⟩
 rintro k (⟨x,hk⟩|⟨k',o,ho,hk⟩)
 ·obtain⟨t,ht⟩:=evS_refs hk
  exact I.refsT t k ht
 exact I.refsM k' o k ho hk
end
structure FnI where
 n:Nat
 kp:Nat
 res:Array ResultVar
 body:Option Code
def q9 (ops:Array Oper):Nat->Nat->Nat->Bool
 | 0,_,_=>false
 | f+1,j,i=>match ops[j]? with
  | some o=>o.after.toList.any fun e=>Region.binds .any e&&(Nat.beq e.on i||q9 ops f e.on i)
  | none=>false
def useS (ops:Array Oper) (o:Oper):List Tmp:=
 o.dst.toList++(tmpsOf o.op.operands.toList++(match o.guard with|some (g,_)=>((ops[g]?).bind (·.dst)).toList|none=>[]))
def clashS (ops:Array Oper) (o p:Oper):Bool:=o.dst.toList.any fun t=>(useS ops p).any (Nat.beq t)
def slotAgainst (ops:Array Oper) (i:Nat) (o:Oper):Nat->List Oper->Bool
 | _,[]=>true
 | j,p::l=>(!(clashS ops o p||clashS ops p o)||q9 ops 8 j i)&&slotAgainst ops i o (j+1) l
def slotPairs (ops:Array Oper):Nat->List Oper->Bool
 | _,[]=>true
 | i,o::l=>o.after.toList.all (fun e=>!Region.binds .any e||Nat.blt e.on i)&&slotAgainst ops i o (i+1) l&&slotPairs ops (i+1) l
def slotsOk (ops:Array Oper):Bool:=slotPairs ops 0 ops.toList
def jA (n:Nat):Code->Bool
 | .seq x y=>jA n x&&jA n y
 | .cond _ x y=>jA n x&&jA n y
 | .block _ c=>jA n c
 | .loop c=>jA n c
 | .scope c=>jA n c
 | .region _ ops dr=>(ops.toList.all fun o=>dstOk n o.dst)&&(!dr||slotsOk ops)
 | _=>true
section
variable {P:Program} {Y:Tab} [qM P Y] {O:Orc} {F:FnI} {nb:Nat} {drawn:Array Oper->St->Option St}
theorem Inv.keepF {G:Gh} {s:St} {a:Act} {w:World} (I:Inv G s.vw a w) (K m:Nat) :
  ∃ G',Inv G' (St.vw ⟨Go.Lens.keepF m s.tm,s.ms⟩) a w/\Since K (qw s.ms) G w (qw s.ms) G' w:=by
 refine I.keep (fun t=>?_) (fun h o ho=>ho) (fun h o _ ho=>⟨o,ho⟩) (fun t h hh=>?_) (fun k o hk h hh=>I.refsM k o h hk hh)
 ·rw[getT_keepF]
  split
  ·exact .inl rfl
  exact .inr rfl
 rw[getT_keepF] at hh
 split at hh
 ·exact I.refsT t h hh
 simp[DV.refs] at hh
theorem getT_mem {l:List (Nat×DV)} {t h:Nat} (hh:h∈(jx l t).refs):∃ p∈l,h∈p.2.refs:=by
 induction l with
 | nil=>simp[getT_nil,DV.refs] at hh
 | cons p l ih=>
  obtain⟨k,d⟩:=p
  rw[ju] at hh
  split at hh
  ·exact⟨_,ql,hh⟩
  obtain⟨q,hq,h2⟩:=ih hh;exact⟨q,zO _ hq,h2⟩
end
end Go.Lens
end
section
namespace Go.Lens
variable [Lz]
def zipT:Nat->List DV->List (Nat×DV)
 | _,[]=>[]
 | i,d::ds=>(i,d)::zipT (i+1) ds
noncomputable def resX (Y:Tab) (s:St):List ResultVar->Option (List DV)
 | []=>some []
 | .tmp t::l=>match resX Y s l with
  | some ds=>some (jx s.tm t::ds)
  | none=>none
 | .cell t ty::l=>match Zh Y ty (qw s.ms) (jx s.tm t),resX Y s l with
  | some (true,d),some ds=>some (d::ds)
  | _,_=>none
def oneD:List DV->DV
 | [d]=>d
 | ds=>.tup ds
mutual
def rslv (look:Nat->Option MO):DV->DV
 | .agg ds=>mkAgg (rslvL look ds)
 | .pv p=>.pv p
 | .nils=>.nils
 | d=>match pvOf look d with
  | some p=>.pv p
  | none=>d
def rslvL (look:Nat->Option MO):List DV->List DV
 | []=>[]
 | d::ds=>rslv look d::rslvL look ds
end
noncomputable def closeX (Y:Tab) (F:FnI) (nb:Nat) (l:List (Nat×MO)) (s:St):Option (DV×List (Nat×MO)):=
 match resX Y s F.res.toList with
 | some ds=>
  let val:=oneD (rslvL (qw s.ms) ds)
  let ms':=sel s.ms (reachX s.ms 20000 (val.refs++l.map (·.1)) [])
  bif jm ms'&&val.refs.all (j8 ms')&&l.all (fun p=>j8 ms' p.1) then some (val,ms') else none
 | none=>none
section
variable {P:Program} {Y:Tab} [qM P Y] {G:Gh} {w:World} {a:Act} {s:St}
mutual
theorem rslv_sound {look:Nat->Option MO} (hl:∀ h m,look h=some m->qY G w h m):∀ (d:DV) (v:Value),qx G (G.rd w) d v->qx G (G.rd w) (rslv look d) v
 | .agg ds,v,h=>by
  simp only[rslv]
  simp only[qx] at h
  obtain⟨vs,rfl,ho,hv⟩:=h
  have:=RelDV_mkAgg ho (rslvL_sound hl ds _ hv)
  simpa using this
 | .pv p,v,h=>by simpa only[rslv] using h
 | .dead,v,h=>by simp only[rslv,pvOf];exact h
 | .nils,v,h=>by simpa only[rslv] using h
 | .gd c d,v,h=>by simp only[rslv,pvOf];exact h
 | .bref a b,v,h=>by
  simp only[rslv]
  split
  ·rename_i p hp;exact jr hl hp h
  exact h
 | .aref a b,v,h=>by
  simp only[rslv]
  split
  ·rename_i p hp;exact jr hl hp h
  exact h
 | .atrunc a b c,v,h=>by
  simp only[rslv]
  split
  ·rename_i p hp;exact jr hl hp h
  exact h
 | .eref a b c d,v,h=>by simp only[rslv,pvOf];exact h
 | .awin a b c d,v,h=>by simp only[rslv,pvOf];exact h
 | .mref a,v,h=>by
  simp only[rslv]
  split
  ·rename_i p hp;exact jr hl hp h
  exact h
 | .tup ds,v,h=>by simp only[rslv,pvOf];exact h
 | .yld a b c,v,h=>by simp only[rslv,pvOf];exact h
 | .clos f x y,v,h=>by
  simp only[rslv]
  split
  ·rename_i p hp;exact jr hl hp h
  exact h
theorem rslvL_sound {look:Nat->Option MO} (hl:∀ h m,look h=some m->qY G w h m):∀ (ds:List DV) (vs:List Value),qC G (G.rd w) ds vs->qC G (G.rd w) (rslvL look ds) vs
 | [],vs,h=>by simpa only[rslvL] using h
 | d::ds,vs,h=>by
  simp only[rslvL,qC] at h ⊢
  obtain⟨v,vs',e,h1,h2⟩:=h
  exact⟨v,vs',e,rslv_sound hl d v h1,rslvL_sound hl ds vs' h2⟩
end
theorem asAddr_of_load {w:World} {a:Act} {s:St} (I:Inv G s.vw a w) {ty:TypeId} {d r:DV} {sd:Bool} {u:Value} (hp:Zh Y ty (qw s.ms) d=some (sd,r)) (hv:qx G (G.rd w) d u):∃ x,u=.pointer (some x):=by
 unfold Zh at hp
 split at hp
 ·split at hp
  ·rename_i cs
   simp only[qx,qN] at hv;obtain⟨b,o,e,_⟩:=hv;exact⟨_,e⟩
  ·rename_i hh c
   simp only[qx] at hv;obtain⟨_,b,_,e⟩:=hv;exact⟨_,e⟩
  ·rename_i hh v i c
   split at hp
   ·rename_i v' _ _ es hl
    split at hp
    ·rename_i hvv
     subst hvv
     simp only[qx] at hv
     obtain⟨b,o,_,e⟩:=hv.2 (I.ms _ _ hl).2.1
     exact⟨_,e⟩
    cases hp
   cases hp
  cases hp
 cases hp
theorem resX_sound (I:Inv G s.vw a w):∀ (l:List ResultVar) {ds:List DV},resX Y s l=some ds->
  ∃ vs,(l.mapM (m:=Sem) fun| .tmp t=>pure (a.tmps.getD t undef)| .cell c t=>do loadVar t (<-asAddr (a.tmps.getD c undef))).run P w=.ok vs w/\qC G (G.rd w) ds vs
 | [],ds,h=>by
  simp only[resX] at h
  cases h
  exact⟨[],rfl,by simp[qC]⟩
 | .tmp t::l,ds,h=>by
  simp only[resX] at h
  split at h
  ·rename_i ds' hr
   cases h
   obtain⟨vs,h1,h2⟩:=resX_sound I l hr
   have hv:qx G (G.rd w) (jx s.tm t) (a.tmps.getD t undef):=I.ts t
   refine⟨a.tmps.getD t undef::vs,?_,by simp only[qC];exact⟨_,_,rfl,hv,h2⟩⟩
   simp only[List.mapM_cons,qt,qu,qr,h1]
  cases h
 | .cell t ty::l,ds,h=>by
  simp only[resX] at h
  split at h
  ·rename_i d ds' hp hr
   cases h
   obtain⟨vs,h1,h2⟩:=resX_sound I l hr
   have hv:qx G (G.rd w) (jx s.tm t) (a.tmps.getD t undef):=I.ts t
   have hsees:Sees G w a.eval (evS s) (qw s.ms):=⟨j7 I,fun h m hm=>I.ms h m hm,I.sees.1,I.sees.2⟩
   obtain⟨r,h3,h4⟩:=kX (P:=P) hsees hp hv
   refine⟨r::vs,?_,by simp only[qC];exact⟨_,_,rfl,h4,h2⟩⟩
   have h5:(do loadVar ty (<-asAddr (a.tmps.getD t undef)):Sem Value).run P w=.ok r w:=by
    rw[<-h3]
    unfold Instr.loadAt
    obtain⟨x,e⟩:=asAddr_of_load I hp hv
    rw[e]
    simp[asAddr,Instr.sureAddr]
   rw[List.mapM_cons,qt,h5]
   simp only[qr,qt,h1,qu]
  cases h
theorem getT_zipT (G:Gh) (R:Rd):∀ (ds:List DV) (vs:List Value) (i t:Nat),qC G R ds vs->t<i\/qx G R (jx (zipT i ds) t) ((vs[t-i]?).getD undef)
 | [],vs,i,t,h=>.inr (by simp only[zipT,getT_nil,qx])
 | p::ps,vs,i,t,h=>by
  simp only[qC] at h
  obtain⟨v,vs',rfl,h1,h2⟩:=h
  rcases Nat.lt_or_ge t i with hlt|hge
  ·exact .inl hlt
  right
  simp only[zipT,ju]
  by_cases e:i=t
  ·subst e;simpa only[if_pos,Nat.sub_self,List.getElem?_cons_zero,zQ] using h1
  rw[if_neg e]
  rcases getT_zipT G R ps vs' (i+1) t h2 with h3|h3
  ·omega
  have:t-i=(t-(i+1))+1:=aa
  rw[this];simpa using h3
theorem j3:∀ (ps:List DV) (i t:Nat),i+ps.length<=t->jx (zipT i ps) t=.dead
 | [],i,t,_=>rfl
 | p::ps,i,t,h=>by
  simp only[zb] at h
  simp only[zipT,ju]
  rw[if_neg aa]
  exact j3 ps (i+1) t aa
theorem refs_zipT:∀ (ps:List DV) (i t h:Nat),h∈(jx (zipT i ps) t).refs->h∈DV.qP ps
 | [],i,t,h,hh=>by simp[zipT,getT_nil,DV.refs] at hh
 | p::ps,i,t,h,hh=>by
  simp only[zipT,ju] at hh
  simp only[DV.qP,zI]
  split at hh
  ·exact .inl hh
  exact .inr (refs_zipT ps (i+1) t h hh)
theorem oneD_rel {ds:List DV} {vs:List Value} (h:qC G (G.rd w) ds vs):qx G (G.rd w) (oneD ds) (if h:vs.toArray.size=1 then vs.toArray[0] else .tuple vs.toArray):=by
 have hlen:=h.length
 unfold oneD
 split
 ·rename_i d
  simp only[qC] at h
  obtain⟨v,vs',rfl,h1,rfl⟩:=h
  simpa using h1
 rename_i hne
 have:¬vs.toArray.size=1:=by
  simp only[List.size_toArray]
  intro e
  rw[e] at hlen
  match ds,hlen with
  | [d],_=>exact hne d rfl
 rw[dif_neg this]
 simp only[qx]
 exact⟨vs.toArray,rfl,by simpa using h⟩
theorem closeX_sound {l:List (Nat×MO)} {F:FnI} {nb:Nat} {fn:Func} {val:DV} {ms':List (Nat×MO)} {G':Gh} {w':World} (hres:fn.results=F.res) (M:Zc G (qw l) w) (I':Inv G' s.vw a w')
  (Sn:Since nb (qw l) G w (qw s.ms) G' w') (hnb:∀ h o,qw l h=some o->h<nb) (h:closeX Y F nb l s=some (val,ms')) :
  ∃ v,(results fn a.tmps).run P w'=.ok v w'/\∃ G'',Stepped G w (qw l) val ms' G'' w' v:=by
 unfold closeX at h
 split at h
 ·rename_i ds hds
  simp only at h
  generalize hv:oneD (rslvL (qw s.ms) ds)=v1 at h
  generalize hms2:sel s.ms (reachX s.ms 20000 (v1.refs++l.map (·.1)) [])=ms2 at h
  cases hq:(jm ms2&&v1.refs.all (j8 ms2)&&l.all (fun p=>j8 ms2 p.1)) with
  | false=>rw[hq] at h;cases h
  | true=>
   rw[hq] at h
   cases h
   simp only[zj,zr] at hq
   obtain⟨⟨q1,q2⟩,q3⟩:=hq
   obtain⟨vs,h1,h2⟩:=resX_sound (P:=P) I' _ hds
   have hrs:=rslvL_sound (fun h m hm=>I'.ms h m hm) ds vs h2
   have hval:=oneD_rel hrs
   have hrun:(results fn a.tmps).run P w'=.ok (if h:vs.toArray.size=1 then vs.toArray[0] else .tuple vs.toArray) w':=by
    unfold results
    rw[hres,qt,Array.mapM_eq_mapM_toList]
    simp only[map_eq_pure_bind]
    rw[qt]
    erw [h1]
    simp only[qr,qu]
   refine⟨_,hrun,?_⟩
   have hval':qx G' (G'.rd w') val (if h:vs.toArray.size=1 then vs.toArray[0] else .tuple vs.toArray):=by rw[<-hv];exact hval
   refine Since.close (K:=nb) (σ':=s.vw) M I' Sn hnb hval' ?_ ?_ ?_ ?_
   ·intro h o hm
    rw[<-hms2] at hm
    exact sel_mem hm
   ·intro h o ho
    obtain⟨o',ho'⟩:=ke.1 (q3 _ (jt ho))
    exact zF.2 ⟨_,jt ho',rfl⟩
   ·intro h hh
    obtain⟨o',ho'⟩:=ke.1 (q2 h hh)
    exact zF.2 ⟨_,jt ho',rfl⟩
   intro k o hk h hh
   have:=zr.1 (zr.1 q1 _ hk) h hh
   obtain⟨o',ho'⟩:=ke.1 this
   exact zF.2 ⟨_,jt ho',rfl⟩
 cases h
end
end Go.Lens
end
section
namespace Go.Lens
variable [Lz]
structure Ef where
  dst:Option Tmp
  val:DV
  ms:List (Nat×MO)
  rd:List Nat
def stp (s:St) (e:Ef):St:=s.put e.dst e.val e.ms
noncomputable def evT (ts:List Tmp) (s:St):Operand->DV
  | .tmp t=>bif ts.any (Nat.beq t) then jx s.tm t else .dead
  | x=>evS s x
def lvl (op:Op) (ev:Operand->DV):Nat:=match op with
  | .move _| .assign _| .nilCheck _=>0
  | .fieldAddr _ x _=>(match ev x with
    | .bref _ _=>0
    | _=>2)
  | .load _ _=>1
  | _=>2
noncomputable def nearM (ms:List (Nat×MO)) (rs:List Nat):List (Nat×MO):=
  sel ms rs++((sel ms rs).flatMap fun p=>p.2.refs).map fun h=>(h,MO.gone)
noncomputable def ledM (ms:List (Nat×MO)) (rs:List Nat):Nat->List (Nat×MO)
  | 0=>rs.map fun h=>(h,MO.gone)
  | 1=>nearM ms rs
  | _=>sel ms (reachX ms 10000 rs [])
noncomputable def rdM (ms:List (Nat×MO)) (rs:List Nat) (l:List (Nat×MO)):Nat->List Nat
  | 0=>[]
  | 1=>(sel ms rs).map (·.1)
  | _=>l.map (·.1)
def clashN (e e':Ef):Bool:=e.ms.any fun p=>e'.rd.any (Nat.beq p.1)||e'.ms.any fun q=>Nat.beq p.1 q.1
def efAgainst (ops:Array Oper) (i:Nat) (e:Ef):Nat->List Ef->Bool
  | _,[]=>true
  | j,e'::l=>(!(clashN e e'||clashN e' e)||q9 ops 8 j i)&&efAgainst ops i e (j+1) l
def efPairs (ops:Array Oper):Nat->List Ef->Bool
  | _,[]=>true
  | i,e::l=>efAgainst ops i e (i+1) l&&efPairs ops (i+1) l
def stK (s:St) (es:List Ef) (S:Nat->Bool):Nat->St
  | 0=>s
  | k+1=>match es[k]? with
    | some e=>bif S k then stp (stK s es S k) e else stK s es S k
    | none=>stK s es S k
def Down (ops:Array Oper) (S:Nat->Bool):Prop:=∀ j o,S j=true->ops[j]? =some o->∀ e∈o.after.toList,Region.binds .any e=true->S e.on=true
theorem ordP_down {ops:Array Oper} {S:Nat->Bool} (D:Down ops S):∀ {f j i:Nat},q9 ops f j i=true->S j=true->S i=true
  | 0,j,i,h,_=>by cases h
  | f+1,j,i,h,hj=>by
    simp only[q9] at h
    split at h
    · rename_i o ho
      obtain⟨e,he,h1⟩:=List.any_eq_true.1 h
      simp only[zj,Bool.or_eq_true] at h1
      have hs:=D j o hj ho e he h1.1
      rcases h1.2 with h2|h2
      · have:=zE h2;rw[<-this];exact hs
      · exact ordP_down D h2 hs
    · cases h
theorem efAgainst_spec {ops:Array Oper} {i:Nat} {e:Ef}:∀ {l:List Ef} {j:Nat},efAgainst ops i e j l=true->∀ k e',l[k]? =some e'->(clashN e e'||clashN e' e)=true->q9 ops 8 (j+k) i=true
  | [],j,h,k,e',hk,_=>by simp at hk
  | e0::l,j,h,k,e',hk,hc=>by
    simp only[efAgainst,zj] at h
    cases k with
    | zero=>
      simp only[List.getElem?_cons_zero,zh] at hk
      subst hk
      rw[hc] at h
      simpa using h.1
    | succ k=>
      have:=efAgainst_spec h.2 k e' (by simpa using hk) hc
      rwa [show j+1+k=j+(k+1) from aa] at this
theorem efPairs_spec {ops:Array Oper}:∀ {l:List Ef} {i:Nat},efPairs ops i l=true->∀ a b e e',a<b->l[a]? =some e->l[b]? =some e'->(clashN e e'||clashN e' e)=true->q9 ops 8 (i+b) (i+a)=true
  | [],i,h,a,b,e,e',_,ha,_,_=>by simp at ha
  | e0::l,i,h,a,b,e,e',hab,ha,hb,hc=>by
    simp only[efPairs,zj] at h
    cases a with
    | zero=>
      simp only[List.getElem?_cons_zero,zh] at ha
      subst ha
      cases b with
      | zero=>omega
      | succ b=>
        have:=efAgainst_spec h.1 b e' aQ hc
        rwa [show i+1+b=i+(b+1) from aa] at this
    | succ a=>
      cases b with
      | zero=>omega
      | succ b=>
        have:=efPairs_spec h.2 a b e e' aa aR aQ hc
        rwa [show i+1+b=i+(b+1) from aa,show i+1+a=i+(a+1) from aa] at this
theorem slotAgainst_spec {ops:Array Oper} {i:Nat} {o:Oper}:∀ {l:List Oper} {j:Nat},slotAgainst ops i o j l=true->∀ k p,l[k]? =some p->(clashS ops o p||clashS ops p o)=true->q9 ops 8 (j+k) i=true
  | [],j,h,k,p,hk,_=>by simp at hk
  | p0::l,j,h,k,p,hk,hc=>by
    simp only[slotAgainst,zj] at h
    cases k with
    | zero=>
      simp only[List.getElem?_cons_zero,zh] at hk
      subst hk
      rw[hc] at h
      simpa using h.1
    | succ k=>
      have:=slotAgainst_spec h.2 k p (by simpa using hk) hc
      rwa [show j+1+k=j+(k+1) from aa] at this
theorem slotPairs_spec {ops:Array Oper}:∀ {l:List Oper} {i:Nat},slotPairs ops i l=true->
    (∀ a b o p,a<b->l[a]? =some o->l[b]? =some p->(clashS ops o p||clashS ops p o)=true->q9 ops 8 (i+b) (i+a)=true)/\(∀ a o,l[a]? =some o->∀ e∈o.after.toList,Region.binds .any e=true->e.on<i+a)
  | [],i,h=>⟨fun a b o p _ ha _ _=>by simp at ha,fun a o ha=>by simp at ha⟩
  | o0::l,i,h=>by
    simp only[slotPairs,zj] at h
    obtain⟨⟨h1,h2⟩,h3⟩:=h
    obtain⟨k1,k2⟩:=slotPairs_spec h3
    constructor
    · intro a b o p hab ha hb hc
      cases a with
      | zero=>
        simp only[List.getElem?_cons_zero,zh] at ha
        subst ha
        cases b with
        | zero=>omega
        | succ b=>
          have:=slotAgainst_spec h2 b p aQ hc
          rwa [show i+1+b=i+(b+1) from aa] at this
      | succ a=>
        cases b with
        | zero=>omega
        | succ b=>
          have:=k1 a b o p aa aR aQ hc
          rwa [show i+1+b=i+(b+1) from aa,show i+1+a=i+(a+1) from aa] at this
    · intro a o ha e he hb
      cases a with
      | zero=>
        simp only[List.getElem?_cons_zero,zh] at ha
        subst ha
        have:=zr.1 h1 e he
        rw[hb] at this
        simpa [Nat.blt_eq] using this
      | succ a=>
        have:=k2 a o aR e he hb
        omega
section
variable {s:St} {es:List Ef} {S:Nat->Bool}
theorem stK_succ {k:Nat} {e:Ef} (he:es[k]? =some e):stK s es S (k+1)=bif S k then stp (stK s es S k) e else stK s es S k:=by
  simp only[stK,he]
theorem jM {k:Nat} (he:es[k]? =none):stK s es S (k+1)=stK s es S k:=by
  simp only[stK,he]
theorem getT_stp (s:St) (e:Ef) (t:Nat):jx (stp s e).tm t=if e.dst=some t then e.val else jx s.tm t:=by
  unfold stp St.put putT
  cases hd:e.dst with
  | none=>simp
  | some d=>simp only[ju,zh]
theorem lookM_stp (s:St) (e:Ef) (h:Nat):qw (stp s e).ms h=match ji e.ms h with|some o=>some o|none=>qw s.ms h:=by
  unfold stp
  rw[St.put_look];rfl
theorem getT_stK {k t:Nat} {e:Ef} (he:es[k]? =some e):jx (stK s es S (k+1)).tm t=if S k=true/\e.dst=some t then e.val else jx (stK s es S k).tm t:=by
  rw[stK_succ he]
  cases hs:S k with
  | false=>simp
  | true=>simp[getT_stp]
theorem Zb {k h:Nat} {e:Ef} (he:es[k]? =some e):qw (stK s es S (k+1)).ms h=if S k=true then (match ji e.ms h with|some o=>some o|none=>qw (stK s es S k).ms h) else qw (stK s es S k).ms h:=by
  rw[stK_succ he]
  cases hs:S k with
  | false=>simp
  | true=>simp[lookM_stp]
theorem stK_slot {i n t:Nat} (hin:i<=n) (hi:S i=false) (h1:∀ j e,j<i->es[j]? =some e->e.dst=some t->S j=true) (h2:∀ j e,i<j->es[j]? =some e->e.dst=some t->S j=false) :
    jx (stK s es S n).tm t=jx (stK s es (fun _=>true) i).tm t:=by
  have low:∀ k,k<=i->jx (stK s es S k).tm t=jx (stK s es (fun _=>true) k).tm t:=by
    intro k
    induction k with
    | zero=>intro _;rfl
    | succ k ih=>
      intro hk
      cases he:es[k]? with
      | none=>rw[jM he,jM he];exact ih aa
      | some e=>
        rw[getT_stK he,getT_stK he,ih aa]
        by_cases hd:e.dst=some t
        · rw[if_pos ⟨h1 k e aa he hd,hd⟩,if_pos ⟨rfl,hd⟩]
        · rw[if_neg (fun h=>hd h.2),if_neg (fun h=>hd h.2)]
  have high:∀ k,i<=k->jx (stK s es S k).tm t=jx (stK s es S i).tm t:=by
    intro k
    induction k with
    | zero => intro hk;have:i=0:=aa
              subst this;rfl
    | succ k ih=>
      intro hk
      by_cases hki:i=k+1
      · subst hki;rfl
      · cases he:es[k]? with
        | none=>rw[jM he];exact ih aa
        | some e=>
          rw[getT_stK he,ih aa,if_neg]
          rintro⟨hs,hd⟩
          by_cases hk':k=i
          · subst hk';rw[hi] at hs;cases hs
          · rw[h2 k e aa he hd] at hs;cases hs
  rw[high n hin,low i (zC _)]
theorem stK_name {i n h:Nat} (hin:i<=n) (hi:S i=false) (h1:∀ j e,j<i->es[j]? =some e->h∈e.ms.map (·.1)->S j=true) (h2:∀ j e,i<j->es[j]? =some e->h∈e.ms.map (·.1)->S j=false) :
    qw (stK s es S n).ms h=qw (stK s es (fun _=>true) i).ms h:=by
  have none_of:∀ {e:Ef},¬h∈e.ms.map (·.1)->ji e.ms h=none:=fun {e} hn=>by
    cases ha:ji e.ms h with
    | none=>rfl
    | some o=>exact absurd (zF.2 ⟨_,jJ ha,rfl⟩) hn
  have low:∀ k,k<=i->qw (stK s es S k).ms h=qw (stK s es (fun _=>true) k).ms h:=by
    intro k
    induction k with
    | zero=>intro _;rfl
    | succ k ih=>
      intro hk
      cases he:es[k]? with
      | none=>rw[jM he,jM he];exact ih aa
      | some e=>
        rw[Zb he,Zb he,ih aa,if_pos Z]
        by_cases hd:h∈e.ms.map (·.1)
        · rw[if_pos (h1 k e aa he hd)]
        · rw[none_of hd];simp
  have high:∀ k,i<=k->qw (stK s es S k).ms h=qw (stK s es S i).ms h:=by
    intro k
    induction k with
    | zero => intro hk;have:i=0:=aa
              subst this;rfl
    | succ k ih=>
      intro hk
      by_cases hki:i=k+1
      · subst hki;rfl
      · cases he:es[k]? with
        | none=>rw[jM he];exact ih aa
        | some e=>
          rw[Zb he,ih aa]
          by_cases hd:h∈e.ms.map (·.1)
          · rw[if_neg]
            intro hs
            by_cases hk':k=i
            · subst hk';rw[hi] at hs;cases hs
            · rw[h2 k e aa he hd] at hs;cases hs
          · rw[none_of hd];simp
  rw[high n hin,low i (zC _)]
theorem stK_more {i n:Nat} {e:Ef} (hin:i<n) (he:es[i]? =some e) (hi:S i=false) (hw:∀ j e',i<j->es[j]? =some e'->(e'.dst=e.dst/\e.dst≠none\/∃ h,h∈e.ms.map (·.1)/\h∈e'.ms.map (·.1))->S j=false) :
    (stK s es (fun k=>S k||Nat.beq k i) n).vw=((stK s es S n).vw.setMs e.ms).setT e.dst e.val:=by
  have S'i:(S i||Nat.beq i i)=true:=by rw[Nat.beq_refl];simp
  have S'j:∀ {j},j≠i->(S j||Nat.beq j i)=S j:=fun {j} hj=>by
    have:Nat.beq j i=false:=Bool.eq_false_iff.mpr fun h=>hj (zE h)
    rw[this];simp
  have low:∀ k,k<=i->stK s es (fun k=>S k||Nat.beq k i) k=stK s es S k:=by
    intro k
    induction k with
    | zero=>intro _;rfl
    | succ k ih=>
      intro hk
      cases h:es[k]? with
      | none=>rw[jM h,jM h];exact ih aa
      | some e'=>rw[stK_succ h,stK_succ h,ih aa];simp only[S'j (show k≠i by omega)]
  have hT:∀ t,jx (stK s es (fun k=>S k||Nat.beq k i) n).tm t=if e.dst=some t then e.val else jx (stK s es S n).tm t:=by
    intro t
    have main:∀ k,i<k->k<=n->jx (stK s es (fun k=>S k||Nat.beq k i) k).tm t=if e.dst=some t then e.val else jx (stK s es S k).tm t:=by
      intro k
      induction k with
      | zero=>intro h;omega
      | succ k ih=>
        intro hk hkn
        by_cases hki:k=i
        · subst hki
          rw[getT_stK he,low k (zC _),getT_stK he]
          simp only[hi,Nat.beq_refl,Bool.false_or,true_and,qo,false_and,qq]
        · cases h:es[k]? with
          | none=>rw[jM h,jM h];exact ih aa aa
          | some e'=>
            rw[getT_stK h,getT_stK h,ih aa aa]
            simp only[S'j hki]
            by_cases hd:e.dst=some t
            · by_cases hd':e'.dst=some t
              · have:=hw k e' aa h (.inl ⟨hd'.trans hd.symm,by rw[hd];simp⟩)
                simp[hd,this]
              · simp[hd,hd']
            · simp[hd]
    exact main n hin (zC _)
  have hM:∀ h,qw (stK s es (fun k=>S k||Nat.beq k i) n).ms h=match ji e.ms h with|some o=>some o|none=>qw (stK s es S n).ms h:=by
    intro hh
    have main:∀ k,i<k->k<=n->qw (stK s es (fun k=>S k||Nat.beq k i) k).ms hh=match ji e.ms hh with|some o=>some o|none=>qw (stK s es S k).ms hh:=by
      intro k
      induction k with
      | zero=>intro h;omega
      | succ k ih=>
        intro hk hkn
        by_cases hki:k=i
        · subst hki
          rw[Zb he,low k (zC _),Zb he]
          simp only[hi,Nat.beq_refl,Bool.false_or,qp,qo,qq]
        · cases h:es[k]? with
          | none=>rw[jM h,jM h];exact ih aa aa
          | some e'=>
            rw[Zb h,Zb h,ih aa aa]
            simp only[S'j hki]
            cases ha:ji e.ms hh with
            | none=>rfl
            | some o=>
              simp only
              cases hs:S k with
              | false=>simp
              | true=>
                simp only[qp]
                cases hb:ji e'.ms hh with
                | none=>rfl
                | some o'=>
                  have:=hw k e' aa h (.inr ⟨hh,zF.2 ⟨_,jJ ha,rfl⟩,zF.2 ⟨_,jJ hb,rfl⟩⟩)
                  rw[hs] at this;cases this
    exact main n hin (zC _)
  unfold St.vw Vw.setMs Vw.setT
  simp only
  congr 1
  · funext t
    rw[hT t]
    by_cases hd:e.dst=some t
    · rw[if_pos hd,if_pos hd.symm]
    · rw[if_neg hd,if_neg (fun h=>hd h.symm)]
  · funext h;exact hM h
end
inductive Tr (α:Type) where
 | nil
 | node (l:Tr α) (k:Nat) (v:α) (r:Tr α)
noncomputable def Tr.get {α:Type} (t:Tr α) (n:Nat):Option α:=
 Tr.rec (motive:=fun _=>Option α) none (fun _ k v _ il ir=>Bool.rec (motive:=fun _=>Option α) (Bool.rec (motive:=fun _=>Option α) ir il (Nat.blt n k)) (some v) (Nat.beq n k)) t
def Tr.toList {α:Type}:Tr α->List (Nat×α)
 | .nil=>[]
 | .node l k v r=>l.toList++(k,v)::r.toList
theorem Tr.get_mem {α:Type}:∀ {t:Tr α} {n:Nat} {v:α},t.get n=some v->(n,v)∈t.toList
 | .nil,n,v,h=>by cases h
 | .node l k u r,n,v,h=>by
  have h':Bool.rec (motive:=fun _=>Option α) (Bool.rec (motive:=fun _=>Option α) (r.get n) (l.get n) (Nat.blt n k)) (some u) (Nat.beq n k)=some v:=h
  simp only[Tr.toList,zI,zG]
  cases hb:Nat.beq n k with
  | true=>
   rw[hb] at h'
   cases h'
   have:=zE hb
   subst this
   exact .inr (.inl Z)
  | false=>
   rw[hb] at h'
   cases hl:Nat.blt n k with
   | true=>rw[hl] at h';exact .inl (Tr.get_mem h')
   | false=>rw[hl] at h';exact .inr (.inr (Tr.get_mem h'))
section
variable {P:Program} {Y:Tab} [qM P Y]
theorem lookM_append (a b:List (Nat×MO)) (h:Nat):qw (a++b) h=match ji a h with|some o=>some o|none=>qw b h:=by
 induction a with
 | nil=>rfl
 | cons p a ih=>
  obtain⟨k,o⟩:=p
  simp only[zR,qG,ji,ih]
  split<;>rfl
end
theorem stK_cons (s:St) (e:Ef) (es:List Ef):∀ k,stK s (e::es) (fun _=>true) (k+1)=stK (stp s e) es (fun _=>true) k
 | 0=>rfl
 | k+1=>by
  have ih:=stK_cons s e es k
  cases h:es[k]? with
  | none=>rw[jM (s:=stp s e) h,jM (s:=s) (es:=e::es) (k:=k+1) ai,ih]
  | some e'=>rw[stK_succ (s:=stp s e) h,stK_succ (s:=s) (es:=e::es) (k:=k+1) ai,ih]
theorem stK_all (s:St) (es:List Ef):stK s es (fun _=>true) es.length=es.foldl stp s:=by
 induction es generalizing s with
 | nil=>rfl
 | cons e es ih=>rw[zb,stK_cons,ih];rfl
theorem stK_congr {s:St} {es:List Ef} {S S':Nat->Bool}:∀ {n:Nat},(∀ k,k<n->S k=S' k)->stK s es S n=stK s es S' n
 | 0,_=>rfl
 | n+1,h=>by
  have ih:=stK_congr (s:=s) (es:=es) (n:=n) fun k hk=>h k aa
  simp only[stK,ih,h n aa]
section
variable {O:Orc} {Y:Tab} {nb:Nat} {ops:Array Oper}
theorem mem_tmpsOf {xs:List Operand} {t:Tmp} (h:t∈tmpsOf xs):Operand.tmp t∈xs:=by
 unfold tmpsOf at h
 obtain⟨x,hx,he⟩:=List.mem_filterMap.1 h
 cases x with
 | tmp u=>simp only[zh] at he;subst he;exact hx
 | _=>cases he
theorem clashS_of {o p:Oper} {t:Tmp} (hd:o.dst=some t) (hu:t∈useS ops p):clashS ops o p=true:=by
 unfold clashS
 rw[hd]
 simp only[Option.toList_some,List.any_cons,List.any_nil,Bool.or_false]
 exact List.any_eq_true.2 ⟨t,hu,Nat.beq_refl t⟩
theorem clashN_of {e e':Ef} {h:Nat} (h1:h∈e.ms.map (·.1)) (h2:h∈e'.rd\/h∈e'.ms.map (·.1)):clashN e e'=true:=by
 obtain⟨p,hp,rfl⟩:=zF.1 h1
 refine List.any_eq_true.2 ⟨p,hp,?_⟩
 rcases h2 with h2|h2
 ·rw[List.any_eq_true.2 ⟨p.1,h2,Nat.beq_refl _⟩];rfl
 obtain⟨q,hq,e⟩:=zF.1 h2
 rw[List.any_eq_true.2 ⟨q,hq,by rw[e];exact Nat.beq_refl _⟩,Bool.or_true]
end
section
variable {P:Program} {Y:Tab} [qM P Y] {O:Orc} {nb n:Nat} {ops:Array Oper}
theorem count_set:∀ {l:List Bool} {i:Nat},l[i]? =some false->(l.set i true).count false+1=l.count false
 | [],i,h=>by simp at h
 | b::l,0,h=>by
  simp only[List.getElem?_cons_zero,zh] at h
  subst h
  simp
 | b::l,i+1,h=>by
  have ih:=count_set (l:=l) (i:=i) ai
  simp only[List.set_cons_succ,List.count_cons]
  omega
theorem Inv.drew {G:Gh} {σ:Vw} {a:Act} {w:World} (I:Inv G σ a w) (d:Nat):Inv G σ a { w with drawn:=d }:=
 ⟨I.ts,I.size,I.ms,I.fresh,I.own,I.refsT,I.refsM,I.r0,I.r0m,I.baseLe,I.laid⟩
end
structure Ext where
 noEsc:FuncId
 mkNz:FuncId
 cnt:FuncId
 idx:FuncId
 itoa:FuncId
 bs:TypeId
 byte:TypeId
structure ExtOk (P:Program) (E:Ext):Prop where
 noEsc:∀ vs w,(callFunc E.noEsc vs).run P w=((Extern.AbiNoEscape.same vs).run P w).andThen fun v w'=>.ok (.value v) w'
 idx:∀ vs w,(callFunc E.idx vs).run P w=((Extern.BytealgIndexByte.indexByte vs).run P w).andThen fun v w'=>.ok (.value v) w'
 cnt:∀ vs w,(callFunc E.cnt vs).run P w=((Extern.BytealgCount.count vs).run P w).andThen fun v w'=>.ok (.value v) w'
 mkNz:∃ ps,∀ vs w,(callFunc E.mkNz vs).run P w=((Extern.BytealgMakeNoZero.makeNoZero ps #[E.bs] vs).run P w).andThen fun v w'=>.ok (.value v) w'
 bs:P.underlying E.bs=some (.slice E.byte)
 itoaE:∀ vs w,(callFunc E.itoa vs).run P w=.ok (.enter E.itoa vs) w
 itoa:∀ (n:Int) (_: -9223372036854775808<=n) (_:n<=9223372036854775807) (w:World) (_:Lib.TabIs P w "internal/strconv.uint64pow10" .u64 Lib.pow10Tab),
  Calls P E.itoa #[.int .i64 n] w fun e w'=>e=.returned (.string ⟨(Lib.itoa n).toArray⟩)/\w'.os=w.os/\w'.tape=w.tape/\w'.output=w.output/\∃ os,w'.heap=w.heap++os
 tab:∃ g T fr,P.globalNamed "internal/strconv.uint64pow10" =some g/\Lz.L g=some (.cells (Lib.pow10Tab.map fun z=>Value.int .u64 z).toArray T fr)
section
variable {P:Program} {G:Gh} {w:World} {look:Nat->Option MO}
theorem Zc.ctx (M:Zc G look w):Ctx G w (fun _=>undef) (fun _=>.dead) look look:=by
 refine⟨⟨fun _=>by simp only[qx],M.ms,M.readable.1,M.readable.2⟩,fun _ _ h=>h,?_,M.fresh⟩
 rintro h (⟨x,hx⟩|⟨k,o,ho,hh⟩)
 ·simp[DV.refs] at hx
 exact M.refsM k o h ho hh
theorem qC.one {G:Gh} {R:Rd} {d:DV} {vs:Array Value} (h:qC G R [d] vs.toList):∃ v,vs= #[v]/\qx G R d v:=by
 simp only[qC] at h
 obtain⟨v,_,e,h1,rfl⟩:=h
 exact⟨v,by rw[<-Array.toArray_toList (xs:=vs),e],h1⟩
theorem qC.two {G:Gh} {R:Rd} {d d':DV} {vs:Array Value} (h:qC G R [d,d'] vs.toList):∃ v v',vs= #[v,v']/\qx G R d v/\qx G R d' v':=by
 simp only[qC] at h
 obtain⟨v,_,e,h1,v',_,rfl,h2,rfl⟩:=h
 exact⟨v,v',by rw[<-Array.toArray_toList (xs:=vs),e],h1,h2⟩
theorem Zc.tab {E:Ext} (M:Zc G look w) (hE:ExtOk P E):Lib.TabIs P w "internal/strconv.uint64pow10" .u64 Lib.pow10Tab:=by
 obtain⟨g,T,fr,h1,h2⟩:=hE.tab
 obtain⟨_,h3⟩:=M.laid _ _ h2
 simp only[Lib.TabIs,World.var?,h1,z7,h3]
end
def blt:List UInt8->List UInt8->Bool
  | _,[]=>false
  | [],_::_=>true
  | a::l,b::m=>bif Nat.blt a.toNat b.toNat then true else bif Nat.blt b.toNat a.toNat then false else blt l m
class Fc where
  r:Option Nat
instance (priority:=low) fc0:Fc:=⟨none⟩
def fcR (r:Option Nat):Fence:={ Fence.wide with round:=r }
def fcF [Fc]:Fence:=fcR Fc.r
def mkD (r:Nat):Deferred:={ target:=.collected r,args:= #[] }
def Mks (a:Act) (w:World) (G':Gh) (a':Act) (w':World):Prop:=
  ∃ rs:List Nat,a'.defers=rs.map mkD++a.defers/\rs.Nodup/\∀ r∈rs,w.heap.size<=r/\G'.γ r=none/\w'.heap[r]? =some (.deferred (some []))
theorem Mks.of {a a':Act} {w w':World} {G':Gh} (h:a'.defers=a.defers):Mks a w G' a' w':=⟨[],by simpa using h,by simp,by simp⟩
theorem Mks.trans {a a1 a2:Act} {w w1 w2:World} {G G1 G2:Gh} (h:Mks a w G1 a1 w1) (k:Mks a1 w1 G2 a2 w2) (L0:Later G w G1 w1) (L:Later G1 w1 G2 w2):Mks a w G2 a2 w2:=by
  obtain⟨r1,e1,n1,k1⟩:=h
  obtain⟨r2,e2,n2,k2⟩:=k
  refine⟨r2++r1,by rw[e2,e1];simp,?_,fun r hr=>?_⟩
  · refine List.nodup_append.2 ⟨n2,n1,fun x hx y hy e=>?_⟩
    subst e
    have h1:=(k2 x hx).1
    have h2:=(zT.1 (k1 x hy).2.2).1
    omega
  · rcases zI.1 hr with hr|hr
    · obtain⟨h1,h2,h3⟩:=k2 r hr
      exact⟨qh L0.size h1,h2,h3⟩
    · obtain⟨h1,h2,h3⟩:=k1 r hr
      have hlt:=(zT.1 h3).1
      obtain⟨c1,c2⟩:=L.cold r hlt h2
      exact⟨h1,c2,by rw[c1];exact h3⟩
theorem Mks.step {a a1 a2:Act} {w w1 w2:World} {G G1 G2:Gh} {K:Nat} {l l1 l2:Nat->Option MO} (h:a1.defers=a.defers) (S1:Since K l G w l1 G1 w1) (k:Mks a1 w1 G2 a2 w2) (S2:Since K l1 G1 w1 l2 G2 w2):Mks a w G2 a2 w2:=
  (Mks.of h).trans k S1.later S2.later
theorem Mks.next {a a1 a2:Act} {w w1 w2:World} {G G1 G2:Gh} {K:Nat} {l l1 l2:Nat->Option MO} (S1:Since K l G w l1 G1 w1) (h:Mks a w G1 a1 w1) (S2:Since K l1 G1 w1 l2 G2 w2) (k:Mks a1 w1 G2 a2 w2):Mks a w G2 a2 w2:=
  h.trans k S1.later S2.later
theorem wpR_of {P:Program} {o:Oper} {a:Act} {w:World} {next:Act->World->Prop} {Q:Exit->Act->World->Prop} (h:o.wp P a w next Q) (hd:∀ c,o.op≠.defer c) (r:Option Nat):o.wpIn (fcR r) 0 P a w next Q:=by
  refine⟨fun _ _=>trivial,?_⟩
  show o.uponIn (fcR r) 0 P a next Q ((o.semAt r a.eval).run P w)
  rw[Oper.semAt_eq _ _ _ hd]
  unfold Oper.wp at h
  generalize (execOp a.eval o).run P w=x at h ⊢
  cases x with
  | ok x w'=>
    cases x with
    | enter f args=>exact⟨(fun hh=>by simp[fcR,Fence.wide] at hh),callsIn_wide.2 h⟩
    | row row args=>exact⟨(fun hh=>by simp[fcR,Fence.wide] at hh),fun c cs _=>let ⟨v,w',r,s⟩:=h c cs;⟨v,w',r,stepsIn_wide.2 s⟩⟩
    | round l f tmps assign body=>exact absurd h aS
    | _=>first|exact h|exact absurd h aS
  | halt x w'=>cases x<;>first|exact h|exact absurd h aS
theorem notDefer {P:Program} {o:Oper} {ρ:Operand->Value} {w w':World} {x:Next} (h:(execOp ρ o).run P w=.ok x w') (hx:∀ d,x≠.defer d):∀ c,o.op≠.defer c:=by
  intro c hc
  unfold execOp at h
  rw[hc] at h
  simp only[qt] at h
  cases hr:(resolve ρ c o.type).run P w with
  | ok d w1=>rw[hr] at h;simp only[qr,qu,Result.ok.injEq] at h;exact hx _ h.1.symm
  | halt e w1=>rw[hr] at h;cases h
def T [Fc] (P:Program) (n nb:Nat) (c:Code) (s:St) (Q:Exit->St->Prop):Prop:=
  ∀ (G:Gh) (a:Act) (w:World) (R:Exit->Act->World->Prop),Inv G s.vw a w->a.tmps.size=n->
    (∀ e s' G' a' w',Q e s'->Inv G' s'.vw a' w'->Since nb (qw s.ms) G w (qw s'.ms) G' w'->a'.tmps.size=n->Mks a w G' a' w'->R e a' w')->c.wpIn fcF 0 P R a w
def Wk (nb:Nat) (s s':St):Prop:=
  ∀ {G:Gh} {a:Act} {w:World},Inv G s.vw a w->∃ G',Inv G' s'.vw a w/\Since nb (qw s.ms) G w (qw s'.ms) G' w
section
variable {P:Program} {n nb:Nat} {c x y:Code} {s:St} {Q:Exit->St->Prop}
theorem T.mono [Fc] {Q':Exit->St->Prop} (h:T P n nb c s Q) (k:∀ e s',Q e s'->Q' e s'):T P n nb c s Q':=by
  intro G a w R I hn hK
  exact h _ _ _ _ I hn fun e s' G' a' w' hq=>hK e s' G' a' w' (k e s' hq)
theorem T.weak [Fc] {s':St} (hw:Wk nb s s') (h:T P n nb c s' Q):T P n nb c s Q:=by
  intro G a w R I hn hK
  obtain⟨G1,I1,Sn1⟩:=hw I
  exact h _ _ _ _ I1 hn fun e s2 G2 a2 w2 hq I2 Sn2 hn2 hd2=>hK e s2 G2 a2 w2 hq I2 (Sn1.trans Sn2) hn2 (Mks.step Z Sn1 hd2 Sn2)
theorem T.seq [Fc] {M:Exit->St->Prop} (hx:T P n nb x s M) (hy:∀ s',M .normal s'->T P n nb y s' Q) (ho:∀ e s',e≠.normal->M e s'->Q e s'):T P n nb (.seq x y) s Q:=by
  intro G a w R I hn hK
  refine wpIn_seq (hx _ _ _ _ I hn ?_)
  intro e s' G1 a1 w1 hm I1 Sn1 hn1 hd1
  cases e with
  | normal=>
    refine hy s' hm _ _ _ _ I1 hn1 ?_
    intro e2 s2 G2 a2 w2 hq I2 Sn2 hn2 hd2
    exact hK e2 s2 G2 a2 w2 hq I2 (Sn1.trans Sn2) hn2 (Mks.next Sn1 hd1 Sn2 hd2)
  | _=>exact hK _ s' G1 a1 w1 (ho _ _ ao hm) I1 Sn1 hn1 hd1
theorem T.cond [Fc] {o:Operand} {b:Bool} (hc:evS s o=.pv (.lit (.bool b))) (hx:b=true->T P n nb x s Q) (hy:b=false->T P n nb y s Q):T P n nb (.cond o x y) s Q:=by
  intro G a w R I hn hK
  have hv:=j7 I o
  rw[hc] at hv
  cases b with
  | true=>exact wpIn_cond_true (qA hv).1 (hx Z _ _ _ _ I hn hK)
  | false=>exact wpIn_cond_false (qA hv).1 (hy Z _ _ _ _ I hn hK)
theorem T.block [Fc] {id:Nat} (h:T P n nb c s fun e s'=>match e with
    | .exit i=>if i=id then Q .normal s' else Q (.exit i) s'
    | e=>Q e s'):T P n nb (.block id c) s Q:=by
  intro G a w R I hn hK
  refine wpIn_block (h _ _ _ _ I hn ?_)
  intro e s' G1 a1 w1 hq I1 Sn1 hn1 hd1
  cases e with
  | exit i=>
    simp only[Exit.inBlock]
    simp only at hq
    split at hq
    · rename_i hi;subst hi;rw[if_pos rfl];exact hK _ s' G1 a1 w1 hq I1 Sn1 hn1 hd1
    · rename_i hi;rw[if_neg hi];exact hK _ s' G1 a1 w1 hq I1 Sn1 hn1 hd1
  | _=>exact hK _ s' G1 a1 w1 hq I1 Sn1 hn1 hd1
theorem T.loop [Fc] (J:Nat->St->Prop) (hb:∀ k s,J k s->T P n nb c s fun e s'=>match e with
    | .normal=>∃ k',k' < k/\J k' s'
    | e=>Q e s') {k:Nat} (h0:J k s):T P n nb (.loop c) s Q:=by
  have key:∀ m k s,k<m->J k s->∀ {G:Gh} {a:Act} {w:World} {R:Exit->Act->World->Prop},Inv G s.vw a w->a.tmps.size=n->
      (∀ e s' G' a' w',Q e s'->Inv G' s'.vw a' w'->Since nb (qw s.ms) G w (qw s'.ms) G' w'->a'.tmps.size=n->Mks a w G' a' w'->R e a' w')->Code.roundsIn fcF 0 P c R m a w:=by
    intro m
    induction m with
    | zero=>intro k s hk;omega
    | succ m ih=>
      intro k s hk hJ G a w R I hn hK
      rw[roundsIn_succ]
      refine hb k s hJ _ _ _ _ I hn ?_
      intro e s' G1 a1 w1 hq I1 Sn1 hn1 hd1
      cases e with
      | normal=>
        obtain⟨k',hlt,hJ'⟩:=hq
        exact ih k' s' aa hJ' I1 hn1 fun e2 s2 G2 a2 w2 hq2 I2 Sn2 hn2 hd2=>hK e2 s2 G2 a2 w2 hq2 I2 (Sn1.trans Sn2) hn2 (Mks.next Sn1 hd1 Sn2 hd2)
      | _=>exact hK _ s' G1 a1 w1 hq I1 Sn1 hn1 hd1
  intro G a w R I hn hK
  exact wpIn_loop_rounds (k+1) (key (k+1) k s aa h0 I hn hK)
theorem T.skip [Fc] (h:Q .normal s):T P n nb .skip s Q:=by
  intro G a w R I hn hK;exact wpIn_skip (hK _ s G a w h I (Since.refl _ _ _ _) hn (Mks.of Z))
theorem T.exit [Fc] {id:Nat} (h:Q (.exit id) s):T P n nb (.exit id) s Q:=by
  intro G a w R I hn hK;exact wpIn_exit (hK _ s G a w h I (Since.refl _ _ _ _) hn (Mks.of Z))
theorem T.ret [Fc] (h:Q .ret s):T P n nb .ret s Q:=by
  intro G a w R I hn hK;exact wpIn_ret (hK _ s G a w h I (Since.refl _ _ _ _) hn (Mks.of Z))
def TO (P:Program) (n nb:Nat) (ops:Array Oper) (l:List Nat) (s:St) (Q:St->Prop):Prop:=
  ∀ (G:Gh) (a:Act) (w:World) (R:Exit->Act->World->Prop),Inv G s.vw a w->a.tmps.size=n->
    (∀ s' G' a' w',Q s'->Inv G' s'.vw a' w'->Since nb (qw s.ms) G w (qw s'.ms) G' w'->a'.tmps.size=n->a'.defers=a.defers->R .normal a' w')->wpOps P ops R l a w
theorem TO.nil {ops:Array Oper} {Q:St->Prop} (h:Q s):TO P n nb ops [] s Q:=by
  intro G a w R I hn hK
  exact hK s G a w h I (Since.refl _ _ _ _) hn rfl
theorem T.region {id:Nat} {ops:Array Oper} {kp:Nat} (h:TO P n nb ops (List.range ops.size) s fun s'=>Q .normal ⟨Go.Lens.keepF kp s'.tm,s'.ms⟩):T P n nb (.region id ops false) s Q:=by
  intro G a w R I hn hK
  refine wpIn_wide.2 (wp_region (h _ _ _ _ I hn ?_))
  intro s' G1 a1 w1 hq I1 Sn1 hn1 hd1
  obtain⟨G2,I2,Sn2⟩:=I1.keepF nb kp
  exact hK _ _ _ _ _ hq I2 (Sn1.trans Sn2) hn1 (Mks.of hd1)
structure CallR (P:Program) (f:FuncId) (ds:List DV) (look:Nat->Option MO) (R:DV->List (Nat×MO)->Prop):Prop where
  refs:∀ h∈DV.qP ds,∃ o,look h=some o
  call:∀ (G:Gh) (w:World) (vs:Array Value),Zc G look w->qC G (G.rd w) ds vs.toList->
    CallsAs P f vs w fun r w'=>∃ val ms G',R val ms/\Stepped G w look val ms G' w' r
theorem Inv.shut {G:Gh} {σ:Vw} {a:Act} {w:World} (I:Inv G σ a w) {r:Nat} {x y:Option (List Deferred)} (hg:G.γ r=none) (hr:w.heap[r]? =some (.deferred x)) (hL:Lz.L r=none):Inv G σ a (w.putObj r (.deferred y)):=by
  have hne:∀ b,b≠r->(w.putObj r (.deferred y)).heap[b]? =w.heap[b]? :=fun b hb=>World.putObj_heap_other hb
  have hc:∀ b o v,w.cell? ⟨b,o,none⟩=some v->(w.putObj r (.deferred y)).cell? ⟨b,o,none⟩=some v:=by
    intro b o v h
    by_cases hb:b=r
    · subst hb;simp only[World.cell?,hr] at h;cases h
    · rw[World.cell?_eq_of (hne b hb)];exact h
  have hm:∀ b es,j5 w b=some es->j5 (w.putObj r (.deferred y)) b=some es:=by
    intro b es h
    by_cases hb:b=r
    · subst hb;simp only[j5,hr] at h;cases h
    · unfold j5 at h ⊢;rw[hne b hb];exact h
  have hR:(G.rd w).Le (G.rd (w.putObj r (.deferred y))):=by
    constructor
    · intro b o v h
      simp only[Gh.rd] at h ⊢
      split at h
      · rename_i hb;rw[if_pos hb];exact h
      · rename_i hb
        rw[if_neg hb]
        split at h
        · rename_i hb2;rw[if_pos hb2];exact hc _ _ _ h
        · cases h
    · intro b es h
      simp only[Gh.rd] at h ⊢
      split at h
      · rename_i hb;rw[if_pos hb];exact h
      · rename_i hb
        rw[if_neg hb]
        split at h
        · rename_i hb2;rw[if_pos hb2];exact hm _ _ h
        · cases h
  refine⟨fun s=>qx.mono (G:=G) hR _ _ (fun _ _=>.inl Z) (I.ts s),I.size,fun h o ho=>qY.monoR hR Z (fun b hb=>⟨hb,hne b (fun e=>by subst e;rw[hg] at hb;cases hb)⟩) o (fun _ _=>.inl rfl) (I.ms h o ho),
    fun b h hb=>by rw[World.putObj_size];exact I.fresh b h hb,I.own,I.refsT,I.refsM,fun b o v hb hv=>let ⟨e1,e2⟩:=I.r0 b o v hb hv;⟨e1,hc _ _ _ e2⟩,fun b es hb hv=>let ⟨e1,e2⟩:=I.r0m b es hb hv;⟨e1,hm _ _ e2⟩,by rw[World.putObj_size];exact I.baseLe,
    fun b o h=>let ⟨e1,e2⟩:=I.laid b o h;⟨e1,by rw[hne b (fun e=>by subst e;rw[hL] at h;cases h)];exact e2⟩⟩
theorem Since.shut {K:Nat} {l l':Nat->Option MO} {G G':Gh} {w w':World} (S:Since K l G w l' G' w') {r:Nat} {o:Obj} (hr:w.heap.size<=r):Since K l G w l' G' (w'.putObj r o):=
  ⟨⟨S.later.base,S.later.R0,S.later.R0c,S.later.R0m,S.later.os,S.later.tape,S.later.output,by rw[World.putObj_size];exact S.later.size,
    fun b hb hg=>let ⟨e1,e2⟩:=S.later.cold b hb hg;⟨by rw[World.putObj_heap_other aa];exact e1,e2⟩,S.later.drawn⟩,S.keeps,S.newb⟩
theorem leaves_marks {F:Fence} {n:Nat} {fn:Func} {tmps:Array Value} {R:Ending->World->Prop} {G':Gh} {σ:Vw} {a:Act} {K:Nat} {l:Nat->Option MO} {G:Gh} {w:World} :
    ∀ (rs:List Nat) (w':World),rs.Nodup->(∀ r∈rs,w.heap.size<=r/\G'.γ r=none/\w'.heap[r]? =some (.deferred (some []))/\Lz.L r=none)->Inv G' σ a w'->Since K l G w σ.look G' w'->
    (∀ w2,Inv G' σ a w2->Since K l G w σ.look G' w2->∃ v,(results fn tmps).run P w2=.ok v w2/\R (.returned v) w2)->LeavesInM F n P fn tmps R (rs.map mkD) .returning w'
  | [],w',_,_,I,S,h=>h w' I S
  | r::rs,w',hnd,hr,I,S,h=>by
    obtain⟨h1,h2,h3,h4⟩:=hr r ao
    obtain⟨nd1,nd2⟩:=List.nodup_cons.1 hnd
    refine⟨by simp,.inl ⟨r,_,rfl,run_takeDeferred h3,?_⟩⟩
    refine leaves_marks rs _ nd2 (fun r' hr'=>?_) (I.shut h2 h3 h4) (S.shut h1) h
    obtain⟨k1,k2,k3,k4⟩:=hr r' (by simp[hr'])
    exact⟨k1,k2,(World.putObj_heap_other (by rintro rfl;exact nd1 hr')).trans k3,k4⟩
theorem CallR.of {Y:Tab} [qM P Y] {F:FnI} {f:FuncId} {fn:Func} {c:Code} (hf:P.funcs[f]? =some fn) (hb:fn.body=some c) (hn:fn.ntmps=F.n) (hr:fn.results=F.res) (he:∀ args w,(callFunc f args).run P w=.ok (.enter f args) w)
    {ds:List DV} {l:List (Nat×MO)} {R:DV->List (Nat×MO)->Prop} {lo:Nat} (hl:ds.length<=F.n) (hrf:∀ h∈DV.qP ds,∃ o,qw l h=some o) (hnb:∀ h o,qw l h=some o->h<lo)
    (h:T P F.n lo c ⟨zipT 0 ds,l⟩ fun e s'=>(e=.normal\/e=.ret)/\∃ val ms,closeX Y F lo l s'=some (val,ms)/\R val ms):CallR P f ds (qw l) R:=by
  refine⟨hrf,fun G w vs M hv=>.inl ⟨he _ _,callsIn_wide.1 (callsIn_of_wp_marks (F:=Fence.wide) (n:=0) hf hb trivial ?_)⟩⟩
  have hvl:vs.size=ds.length:=by have:=hv.length;simpa using this
  have hsz:(vs++Array.replicate (fn.ntmps-vs.size) undef).size=F.n:=by simp;omega
  have I:Inv G (St.vw ⟨zipT 0 ds,l⟩) ⟨vs++Array.replicate (fn.ntmps-vs.size) undef,[]⟩ w:=by
    refine⟨fun t=>?_,fun t ht=>?_,M.ms,M.fresh,M.own,fun t h hh=>?_,M.refsM,M.r0,M.r0m,M.baseLe,M.laid⟩
    · show qx _ _ (jx (zipT 0 ds) t) _
      by_cases ht:t<ds.length
      · rcases getT_zipT G (G.rd w) ds vs.toList 0 t hv with h|h
        · omega
        · have:(vs++Array.replicate (fn.ntmps-vs.size) undef).getD t undef=(vs.toList[t-0]?).getD undef:=by
            simp only[zD,Nat.sub_zero,qi]
            rw[Array.getElem?_append_left aa]
          rw[this];exact h
      · rw[j3 ds 0 t aa];simp only[qx]
    · show jx (zipT 0 ds) t=.dead
      simp only at ht
      exact j3 ds 0 t aa
    · exact hrf h (refs_zipT ds 0 t h hh)
  refine h _ _ _ _ I hsz ?_
  rintro e s' G' a' w' ⟨he2,val,ms,hcl,hR⟩ I' Sn' _ ⟨rs,hd1,hd2,hd3⟩
  have fin:LeavesInM Fence.wide 0 P fn a'.tmps (fun e w'=>∃ r,e=.returned r/\∃ val ms G',R val ms/\Stepped G w (qw l) val ms G' w' r) a'.defers .returning w':=by
    rw[hd1]
    simp only[zS]
    refine leaves_marks rs w' hd2 (fun r hr=>?_) I' Sn' ?_
    · obtain⟨k1,k2,k3⟩:=hd3 r hr
      refine⟨k1,k2,k3,?_⟩
      cases hq:Lz.L r with
      | none=>rfl
      | some o=>have:=(zT.1 (M.laid r o hq).2).1;omega
    · intro w2 I2 S2
      obtain⟨v,k1,G'',k2⟩:=closeX_sound (P:=P) (fn:=fn) hr M I2 S2 hnb hcl
      exact⟨v,k1,v,rfl,val,ms,G'',hR,k2⟩
  rcases he2 with rfl|rfl
  · exact fin
  · exact fin
end
def R64 (n:Int):Prop:= -9223372036854775808<=n/\n<9223372036854775808
def evD:DV->DV
 | .gd true d=>d
 | d=>d
noncomputable def evU (ts:List Tmp) (s:St) (x:Operand):DV:=evD (evT ts s x)
theorem RelDV_evD {G:Gh} {R:Rd} {d:DV} {v:Value} (h:qx G R d v):qx G R (evD d) v:=by
 unfold evD
 split
 ·simp only[qx] at h;exact h.1 trivial
 exact h
theorem refs_evD (d:DV):(evD d).refs=d.refs:=by
 unfold evD
 split
 ·simp only[DV.refs]
 rfl
def Frz (l:List (Nat×MO)) (val0:DV) (m0:List (Nat×MO)) (val:DV) (m:List (Nat×MO)):Prop:=
 ∀ (G:Gh) (w:World) (G1:Gh) (w1:World) (r:Value),Zc G (qw l) w->Stepped G w (qw l) val0 m0 G1 w1 r->∃ G2,Stepped G w (qw l) val m G2 w1 r
theorem Frz.refl (l:List (Nat×MO)) (val:DV) (m:List (Nat×MO)):Frz l val m val m:=fun _ _ G1 _ _ _ S=>⟨G1,S⟩
def km (P:Program) (s:St) (o:Oper) (val:DV) (m:List (Nat×MO)) (rd:List Nat):Prop:=
 ∀ (σ:St) (G:Gh) (a:Act) (w:World) (next:Act->World->Prop) (Q:Exit->Act->World->Prop),(∀ t∈tmpsOf o.op.operands.toList,jx σ.tm t=jx s.tm t)->(∀ h,(h∈rd\/h∈m.map (·.1))->qw σ.ms h=qw s.ms h)->
  Inv G σ.vw a w->(∀ r w' G',Stepped G w (qw σ.ms) val m G' w' r->next (a.put o.dst r) w')->∀ r,o.wpIn (fcR r) 0 P a w next Q
def EBody (P:Program) (Y:Tab) (nb:Nat) (s:St) (o:Oper) (val:DV) (m:List (Nat×MO)) (rd:List Nat):Prop:=
 ∃ (O:Orc) (l:List (Nat×MO)) (val0:DV) (m0:List (Nat×MO)) (lo nm:Nat),OrcOk P O/\
  ledM s.ms (o.op.operands.toList.flatMap fun x=>(evU (tmpsOf o.op.operands.toList) s x).refs) (lvl o.op (evU (tmpsOf o.op.operands.toList) s))=l/\
  rdM s.ms (o.op.operands.toList.flatMap fun x=>(evU (tmpsOf o.op.operands.toList) s x).refs) l (lvl o.op (evU (tmpsOf o.op.operands.toList) s))=rd/\
  (jm l&&(o.op.operands.toList.flatMap fun x=>(evU (tmpsOf o.op.operands.toList) s x).refs).all (j8 l))=true/\
  effX O Y lo nm o (evU (tmpsOf o.op.operands.toList) s) l=some (val0,m0)/\Frz l val0 m0 val m/\
  m.all (fun p=>j8 l p.1||!j8 s.ms p.1)=true
def Body (P:Program) (Y:Tab) (nb:Nat) (s:St) (o:Oper) (val:DV) (m:List (Nat×MO)) (rd:List Nat):Prop:=EBody P Y nb s o val m rd\/km P s o val m rd
noncomputable def refsIn (s:St) (o:Oper) (val:DV):Bool:=val.refs.all fun h=>(tmpsOf o.op.operands.toList).any fun t=>(jx s.tm t).refs.any (Nat.beq h)
def EfR (P:Program) (Y:Tab) (nb:Nat) (ops:Array Oper) (s:St) (o:Oper) (e:Ef):Prop:=
 ∃ c val m rd,gcond ops s o.guard=some c/\(c=true->Body P Y nb s o val m rd)/\
  ((c=true/\e=⟨o.dst,val,m,rd⟩)\/(c=false/\e=⟨o.dst,.gd false (lit (.bool false)),[],[]⟩)\/(m=[]/\refsIn s o val=true/\e=⟨o.dst,.gd c val,[],rd⟩))
theorem EfR.dst {P:Program} {Y:Tab} {nb:Nat} {ops:Array Oper} {s:St} {o:Oper} {e:Ef} (h:EfR P Y nb ops s o e):e.dst=o.dst:=by
 obtain⟨c,val,m,rd,_,_,⟨_,rfl⟩|⟨_,rfl⟩|⟨_,_,rfl⟩⟩:=h<;>rfl
def efsR (P:Program) (Y:Tab) (nb:Nat) (ops:Array Oper):List Oper->St->List Ef->Prop
 | [],_,es=>es=[]
 | o::os,s,es=>∃ e es',es=e::es'/\EfR P Y nb ops s o e/\efsR P Y nb ops os (stp s e) es'
section
variable {P:Program} {Y:Tab} [qM P Y] {nb n:Nat} {ops:Array Oper}
theorem effX_nd {O:Orc} {lo nm:Nat} {o:Oper} {ev:Operand->DV} {l:List (Nat×MO)} {r:DV×List (Nat×MO)} (h:effX O Y lo nm o ev l=some r):∀ c,o.op≠.defer c:=by
 intro c hc
 obtain⟨dst,op,ty,pos,af,gd⟩:=o
 simp only at hc
 subst hc
 have e:effV Y nm dst (.defer c) ev (qw l)=none:=rfl
 simp only[effX,genE,e] at h
 cases h
theorem EfR.sound {π σ:St} {o:Oper} {e:Ef} (H:EfR P Y nb ops π o e) (hdo:dstOk n o.dst=true) (slot:∀ t∈useS ops o,jx σ.tm t=jx π.tm t)
  (name:∀ h,(h∈e.rd\/h∈e.ms.map (·.1))->qw σ.ms h=qw π.ms h) {G:Gh} {a:Act} {w:World} (I:Inv G σ.vw a w) (hn:a.tmps.size=n) {Q:Exit->Act->World->Prop} {next:Act->World->Prop}
  (go:∀ {G':Gh} {r:Value} {w':World},Inv G' (σ.put o.dst e.val e.ms).vw (a.put o.dst r) w'->Since nb (qw σ.ms) G w (qw (σ.put o.dst e.val e.ms).ms) G' w'->next (a.put o.dst r) w') :
  if Region.wanted o (yielded ops a.tmps) then ∀ r,o.wpIn (fcR r) 0 P a w next Q else next (a.put o.dst undef) w:=by
 obtain⟨c,val,m,rd,hg,hb,alt⟩:=H
 have gc:gcond ops σ o.guard=gcond ops π o.guard:=by
  unfold gcond
  cases hg:o.guard with
  | none=>rfl
  | some gw=>
   obtain⟨g,want⟩:=gw
   simp only
   cases hb:(ops[g]?).bind (·.dst) with
   | none=>rfl
   | some t=>simp only;rw[slot t (by simp[useS,hg,hb])]
 have hd':=dstOk_lt hdo hn
 have hw:=gcond_sound I (gc.trans hg)
 cases c with
 | false=>
  rw[hw,if_neg ao]
  rcases alt with ⟨h,_⟩|⟨_,rfl⟩|⟨_,hr,rfl⟩
  ·cases h
  ·obtain⟨I',Sn⟩:=I.gone (K:=nb) o.dst hd' false rfl (lit (.bool false)) aK
   exact go I' Sn
  obtain⟨I',Sn⟩:=I.gone (K:=nb) o.dst hd' false rfl val (fun h hh=>by
   obtain⟨t,ht,h2⟩:=List.any_eq_true.1 (zr.1 hr h hh)
   obtain⟨k,hk,h3⟩:=List.any_eq_true.1 h2
   have:=zE h3
   subst this
   rw[<-slot t (by simp[useS,ht])] at hk
   exact I.refsT t h hk)
  exact go I' Sn
 | true=>
  rw[if_pos hw]
  have hrd:e.rd=rd/\e.ms=m/\(e.val=val\/e.val=.gd true val):=by
   rcases alt with ⟨_,rfl⟩|⟨h,_⟩|⟨rfl,_,rfl⟩
   ·exact⟨rfl,rfl,.inl rfl⟩
   ·cases h
   exact⟨rfl,rfl,.inr rfl⟩
  obtain⟨e1,e2,e3⟩:=hrd
  rw[e1,e2] at name
  have fin:∀ {G2:Gh} {r:Value} {w':World},Stepped G w (qw σ.ms) val m G2 w' r->next (a.put o.dst r) w':=by
   intro G2 r w' S2
   rcases e3 with e3|e3
   ·obtain⟨I',Sn⟩:=I.eff (K:=nb) S2 o.dst hd'
    rw[<-e2,<-e3] at I' Sn
    exact go I' Sn
   obtain⟨I',Sn⟩:=I.eff (K:=nb) S2.gd o.dst hd'
   rw[<-e2,<-e3] at I' Sn
   exact go I' Sn
  rcases hb rfl with hb|hb
  rotate_left
  ·exact hb σ G a w next Q (fun t ht=>slot t (by simp[useS,ht])) name I fun r w' G' S=>fin S
  obtain⟨O,l,val0,m0,lo,nm,hO,hl,hrd,hq,hx,hfz,hq2⟩:=hb
  generalize hrs:(o.op.operands.toList.flatMap fun x=>(evU (tmpsOf o.op.operands.toList) π x).refs)=rs at*
  generalize hA:lvl o.op (evU (tmpsOf o.op.operands.toList) π)=A at*
  simp only[zj] at hq
  have hsub:∀ h o',qw l h=some o'->qw σ.ms h=some o'\/(o'=.gone/\∃ o'',qw σ.ms h=some o''):=by
   intro h o' hh
   have slotRef:h∈rs->∃ o'',qw σ.ms h=some o'':=by
    intro hh'
    rw[<-hrs] at hh'
    obtain⟨x,hx,hxr⟩:=List.mem_flatMap.1 hh'
    simp only[evU,refs_evD] at hxr
    cases x with
    | tmp t=>
     simp only[evT] at hxr
     cases hc:(tmpsOf o.op.operands.toList).any (Nat.beq t) with
     | false=>rw[hc] at hxr;simp[DV.refs] at hxr
     | true=>
      rw[hc] at hxr
      obtain⟨u,hu,hb⟩:=List.any_eq_true.1 hc
      have:=zE hb
      subst this
      simp only[cond_true] at hxr
      rw[<-slot t (by simp[useS,hu])] at hxr
      exact I.refsT t _ hxr
    | const v=>simp only[evT,evS,kY] at hxr;cases hxr
    | global g=>simp[evT,evS,DV.refs] at hxr
    | func f=>simp[evT,evS,DV.refs] at hxr
   match A,hl,hrd with
   | 0,hl,hrd=>
    have hm:=jt hh
    rw[<-hl] at hm
    obtain⟨h',hh',e⟩:=zF.1 hm
    cases e
    exact .inr ⟨rfl,slotRef hh'⟩
   | 1,hl,hrd=>
    rw[<-hl] at hh
    simp only[ledM,nearM] at hh
    have near:∀ {k o2},(k,o2)∈sel π.ms rs->qw σ.ms k=some o2:=by
     intro k o2 hk
     rw[name k (.inl (by rw[<-hrd];exact zF.2 ⟨_,hk,rfl⟩))]
     exact sel_mem hk
    rw[lookM_append] at hh
    cases hs:ji (sel π.ms rs) h with
    | some o2=>
     rw[hs] at hh
     cases hh
     exact .inl (near (jJ hs))
    | none=>
     rw[hs] at hh
     have hm:=jt hh
     obtain⟨h',hh',e⟩:=zF.1 hm
     cases e
     obtain⟨⟨k,o2⟩,hp,hr2⟩:=List.mem_flatMap.1 hh'
     exact .inr ⟨rfl,I.refsM k o2 h (near hp) hr2⟩
   | A+2,hl,hrd=>
    left
    rw[name h (.inl (by rw[<-hrd];exact zF.2 ⟨_,jt hh,rfl⟩))]
    rw[<-hl] at hh;exact sel_sub hh
  have hcl:∀ k o' h,qw l k=some o'->h∈o'.refs->∃ o2,qw l h=some o2:=fun k o' h hk hh=>jP hq.1 k o' hk h hh
  have hnew:∀ h,h∈m.map (·.1)->qw l h=none->qw σ.ms h=none:=by
   intro h hm hh
   rw[name h (.inr hm)]
   exact allHas hq2 h hm hh
  have M:=I.mem
  have Mp:=M.part (l:=qw l) hsub hcl
  have C:Ctx (G.part w (qw l)) w a.eval (evU (tmpsOf o.op.operands.toList) π) (qw l) (qw l):=by
   refine⟨⟨fun x=>?_,Mp.ms,Mp.readable.1,Mp.readable.2⟩,fun h o ho=>ho,?_,Mp.fresh⟩
   ·have full:∀ d,qx G (G.rd w) d (a.eval x)->qx (G.part w (qw l)) ((G.part w (qw l)).rd w) d (a.eval x):=fun d hd=>qx.mono (G:=G) (part_le M) _ _ (fun _ _=>.inl Z) hd
    refine RelDV_evD ?_
    cases x with
    | tmp t=>
     simp only[evT]
     cases hc:(tmpsOf o.op.operands.toList).any (Nat.beq t) with
     | false=>simp only[cond_false,qx]
     | true=>
      obtain⟨u,hu,hb⟩:=List.any_eq_true.1 hc
      have:=zE hb
      subst this
      simp only[cond_true]
      rw[<-slot t (by simp[useS,hu])]
      exact full _ (I.ts t)
    | const v=>exact full _ (j7 I (.const v))
    | global g=>exact full _ (j7 I (.global g))
    | func f=>exact full _ (j7 I (.func f))
   rintro k (⟨x,hk⟩|⟨k',o',ho',hk⟩)
   ·have hxr:k∈rs:=by
     cases x with
     | tmp t=>
      have hk2:=hk
      simp only[evU,refs_evD,evT] at hk2
      cases hc:(tmpsOf o.op.operands.toList).any (Nat.beq t) with
      | false=>rw[hc] at hk2;simp[DV.refs] at hk2
      | true=>
       obtain⟨u,hu,hb⟩:=List.any_eq_true.1 hc
       have:=zE hb
       subst this
       rw[<-hrs]
       exact List.mem_flatMap.2 ⟨.tmp t,mem_tmpsOf hu,hk⟩
     | const v=>simp only[evU,refs_evD,evT,evS,kY] at hk;cases hk
     | global g=>simp[evU,refs_evD,evT,evS,DV.refs] at hk
     | func f=>simp[evU,refs_evD,evT,evS,DV.refs] at hk
    exact ke.1 (zr.1 hq.2 k hxr)
   exact hcl k' o' k ho' hk
  refine wpR_of (effX_sound (P:=P) hO C Mp hx ?_) (effX_nd hx)
  intro r w' G0 S0
  obtain⟨G1,S1⟩:=hfz _ _ _ _ _ Mp S0
  obtain⟨G2,S2⟩:=S1.frame M hsub hcl hnew
  exact fin S2
theorem efsR_spec:∀ {os:List Oper} {s:St} {es:List Ef},efsR P Y nb ops os s es->
  es.length=os.length/\∀ i o,os[i]? =some o->∃ e,es[i]? =some e/\EfR P Y nb ops (stK s es (fun _=>true) i) o e
 | [],s,es,h=>by
  simp only[efsR] at h
  subst h
  exact⟨rfl,fun i o ho=>by simp at ho⟩
 | o::os,s,es,h=>by
  obtain⟨e,es',rfl,he,hes⟩:=h
  obtain⟨h1,h2⟩:=efsR_spec hes
  refine⟨by simp[h1],fun i o' ho=>?_⟩
  cases i with
  | zero=>
   simp only[List.getElem?_cons_zero,zh] at ho
   subst ho
   exact⟨e,rfl,he⟩
  | succ i=>
   obtain⟨e',h3,h4⟩:=h2 i o' (by simpa using ho)
   exact⟨e',by simpa using h3,by rw[stK_cons];exact h4⟩
theorem drawnR_step {s:St} {es:List Ef} (hes:efsR P Y nb ops ops.toList s es) (hds:ops.toList.all (fun o=>dstOk n o.dst)=true) (hsl:slotsOk ops=true) (hef:efPairs ops 0 es=true)
  {S:Nat->Bool} (D:Down ops S) {i:Nat} {o:Oper} (ho:ops[i]? =some o) (hi:S i=false) (hr:∀ e∈o.after.toList,Region.binds .any e=true->S e.on=true)
  {G:Gh} {a:Act} {w:World} (I:Inv G (stK s es S ops.size).vw a w) (hn:a.tmps.size=n) {Q:Exit->Act->World->Prop} {next:Act->World->Prop}
  (hk:∀ G' a' w',Inv G' (stK s es (fun k=>S k||Nat.beq k i) ops.size).vw a' w'->Since nb (qw (stK s es S ops.size).ms) G w (qw (stK s es (fun k=>S k||Nat.beq k i) ops.size).ms) G' w'->
   a'.tmps.size=n->a'.defers=a.defers->next a' w') (r:Option Nat):wpOpIn (fcR r) 0 P ops Q i next a w:=by
 obtain⟨hlen,hsp⟩:=efsR_spec hes
 have hin:i<ops.size:=by
  rcases Nat.lt_or_ge i ops.size with h|h
  ·exact h
  rw[Array.getElem?_eq_none h] at ho;cases ho
 have ho':ops.toList[i]? =some o:=by simpa using ho
 obtain⟨e,he,hef1⟩:=hsp i o ho'
 have hdst:=hef1.dst
 have opOf:∀ {j:Nat} {e':Ef},es[j]? =some e'->∃ o':Oper,ops.toList[j]? =some o'/\e'.dst=o'.dst:=by
  intro j e' hj
  have hjl:j<ops.toList.length:=by
   rw[<-hlen]
   rcases Nat.lt_or_ge j es.length with h|h
   ·exact h
   rw[qg h] at hj;cases hj
  obtain⟨e2,h1,h2⟩:=hsp j ops.toList[j] (zm hjl)
  rw[hj] at h1
  cases h1
  exact⟨_,zm hjl,h2.dst⟩
 have D':Down ops (fun k=>S k||Nat.beq k i):=by
  intro j o2 hj ho2 e2 he2 hb2
  simp only[Bool.or_eq_true] at hj ⊢
  rcases hj with hj|hj
  ·exact .inl (D j o2 hj ho2 e2 he2 hb2)
  have:=zE hj
  subst this
  rw[ho] at ho2;cases ho2
  exact .inl (hr e2 he2 hb2)
 obtain⟨sp1,_⟩:=slotPairs_spec hsl
 have before_in:∀ {j},j<i->q9 ops 8 i j=true->S j=true:=by
  intro j hji h
  have:=ordP_down D' h (by show (S i||Nat.beq i i)=true;rw[Nat.beq_refl];simp)
  simp only[Bool.or_eq_true] at this
  rcases this with h|h
  ·exact h
  have:=zE h;omega
 have behind_out:∀ {j},i<j->q9 ops 8 j i=true->S j=false:=by
  intro j hij h
  cases hs:S j with
  | false=>rfl
  | true=>have:=ordP_down D h hs;rw[hi] at this;cases this
 have slot:∀ t,t∈useS ops o->jx (stK s es S ops.size).tm t=jx (stK s es (fun _=>true) i).tm t:=by
  intro t ht
  refine stK_slot (Nat.le_of_lt hin) hi (fun j e' hj hej hd=>?_) (fun j e' hj hej hd=>?_)
  ·obtain⟨o',h1,h2⟩:=opOf hej
   have:=sp1 j i o' o hj h1 ho' (by rw[clashS_of (h2▸hd) ht];rfl)
   exact before_in hj aT
  obtain⟨o',h1,h2⟩:=opOf hej
  have:=sp1 i j o o' hj ho' h1 (by rw[clashS_of (h2▸hd) ht,Bool.or_true])
  exact behind_out hj aT
 have name:∀ h,(h∈e.rd\/h∈e.ms.map (·.1))->qw (stK s es S ops.size).ms h=qw (stK s es (fun _=>true) i).ms h:=by
  intro h hh
  refine stK_name (Nat.le_of_lt hin) hi (fun j e' hj hej hd=>?_) (fun j e' hj hej hd=>?_)
  ·have:=efPairs_spec hef j i e' e hj hej he (by rw[clashN_of hd hh];rfl)
   exact before_in hj aT
  have:=efPairs_spec hef i j e e' hj he hej (by rw[clashN_of hd hh,Bool.or_true])
  exact behind_out hj aT
 have more:=stK_more (s:=s) (S:=S) hin he hi (fun j e' hj hej hc=>by
  rcases hc with ⟨h1,h2⟩|⟨h,h1,h2⟩
  ·cases hd:e.dst with
   | none=>exact absurd hd h2
   | some t=>
    obtain⟨o',k1,k2⟩:=opOf hej
    have hot:o.dst=some t:=hdst▸hd
    have hot':o'.dst=some t:=by rw[<-k2,h1,hd]
    have:=sp1 i j o o' hj ho' k1 (by rw[clashS_of hot (by simp[useS,hot'])];rfl)
    exact behind_out hj aT
  have:=efPairs_spec hef i j e e' hj he hej (by rw[clashN_of h1 (.inr h2)];rfl)
  exact behind_out hj aT)
 have moreL:qw (stK s es (fun k=>S k||Nat.beq k i) ops.size).ms=upd e.ms (qw (stK s es S ops.size).ms):=congrArg Vw.look more
 have hdo:dstOk n o.dst=true:=zr.1 hds o (List.mem_of_getElem? ho')
 have pd:∀ v,(a.put o.dst v).defers=a.defers:=fun v=>by cases hd:o.dst<;>rfl
 have key:=EfR.sound (P:=P) hef1 hdo slot name I hn (Q:=Q) (next:=next) ?_
 ·unfold wpOpIn
  rw[ho]
  simp only
  split
  ·rename_i hw;rw[if_pos hw] at key;exact key r
  rename_i hw;rw[if_neg hw] at key;exact⟨fun _ _=>trivial,key⟩
 intro G' r w' I' Sn
 refine hk G' _ w' ?_ ?_ aU (pd r)
 ·rw[more,hdst,<-St.put_vw];exact I'
 rw[moreL,<-St.put_look (stK s es S ops.size) o.dst e.val e.ms];exact Sn
theorem drawnR_any {s:St} {es:List Ef} (hes:efsR P Y nb ops ops.toList s es) (hds:ops.toList.all (fun o=>dstOk n o.dst)=true) (hsl:slotsOk ops=true) (hef:efPairs ops 0 es=true) {Q:Exit->Act->World->Prop} (r:Option Nat) :
  ∀ (fuel:Nat) (listed:Array Bool),listed.size=ops.size->listed.toList.count false=fuel->Down ops (fun k=>listed.getD k false)->
  ∀ {G:Gh} {a:Act} {w:World},Inv G (stK s es (fun k=>listed.getD k false) ops.size).vw a w->a.tmps.size=n->
  (∀ G' a' w',Inv G' (es.foldl stp s).vw a' w'->Since nb (qw (stK s es (fun k=>listed.getD k false) ops.size).ms) G w (qw (es.foldl stp s).ms) G' w'->a'.tmps.size=n->a'.defers=a.defers->Q .normal a' w')->
  wpAnyIn (fcR r) 0 P .any ops Q fuel listed a w:=by
 obtain⟨hlen,_⟩:=efsR_spec hes
 obtain⟨_,fwd⟩:=slotPairs_spec hsl
 intro fuel
 induction fuel with
 | zero=>
  intro listed hsz hc D G a w I hn hK
  have all:∀ k,k<ops.size->listed.getD k false=true:=by
   intro k hk
   have hk':k<listed.size:=aa
   have hget:listed.getD k false=listed[k]:=by simp[zD,hk']
   rw[hget]
   cases hb:listed[k] with
   | true=>rfl
   | false=>
    have:false∈listed.toList:=by rw[<-hb];exact Array.getElem_mem_toList hk'
    have:=List.count_pos_iff.2 this
    omega
  have hst:stK s es (fun k=>listed.getD k false) ops.size=es.foldl stp s:=by
   rw[stK_congr (S':=fun _=>true) all,<-stK_all,hlen];simp
  refine⟨?_,?_⟩
  ·unfold Region.ready
   rw[List.filter_eq_nil_iff]
   intro k hk
   have hk':=List.mem_range.1 hk
   have:listed.getD k true=true:=by
    have h1:=all k hk'
    have hk2:k<listed.size:=aa
    simpa [zD,hk2] using h1
   simp[this]
  have:=hK G a w (by rw[<-hst];exact I) (by rw[<-hst];exact Since.refl _ _ _ _) hn rfl
  exact this
 | succ fuel ih=>
  intro listed hsz hc D G a w I hn hK
  refine⟨fun hr=>?_,fun i hi=>?_⟩
  ·exfalso
   have hex:∃ k,k<ops.size/\listed.getD k false=false:=by
    have:false∈listed.toList:=List.count_pos_iff.1 aa
    obtain⟨k,hk,e⟩:=List.getElem_of_mem this
    have hk':k<listed.size:=by simpa using hk
    exact⟨k,aa,by simpa [zD,hk'] using e⟩
   have least:∀ m k,k<=m->k<ops.size->listed.getD k false=false->∃ k0,k0<ops.size/\listed.getD k0 false=false/\∀ j,j<k0->listed.getD j false=true:=by
    intro m
    induction m with
    | zero=>intro k hk h1 h2;exact⟨k,h1,h2,fun j hj=>aa⟩
    | succ m ihm=>
     intro k hk h1 h2
     by_cases hj:∃ j,j<k/\listed.getD j false=false
     ·obtain⟨j,h3,h4⟩:=hj
      exact ihm j aa aa h4
     refine⟨k,h1,h2,fun j hj'=>?_⟩
     cases hb:listed.getD j false with
     | true=>rfl
     | false=>exact absurd ⟨j,hj',hb⟩ hj
   obtain⟨k,hk1,hk2⟩:=hex
   obtain⟨k0,h1,h2,h3⟩:=least k k (zC _) hk1 hk2
   have hk0:k0<listed.size:=aa
   have:k0∈Region.ready .any ops listed:=by
    unfold Region.ready
    rw[List.mem_filter]
    refine⟨List.mem_range.2 h1,?_⟩
    have e1:listed.getD k0 true=false:=by simpa [zD,hk0] using h2
    have e2:ops[k0]? =some ops[k0]:=Array.getElem?_eq_getElem h1
    simp only[e1,e2,Bool.not_false,qf,zQ,Bool.true_and]
    rw[<-Array.all_toList]
    refine zr.2 fun e he=>?_
    cases hb:Region.binds .any e with
    | false=>simp
    | true=>
     have:=fwd k0 ops[k0] (by simp[h1]) e he hb
     simp only[Bool.not_true,Bool.false_or]
     exact h3 e.on aa
   rw[hr] at this;cases this
  unfold Region.ready at hi
  obtain⟨hi1,hi2⟩:=List.mem_filter.1 hi
  have hin:=List.mem_range.1 hi1
  have hil:i<listed.size:=aa
  simp only[zj,Bool.not_eq_true'] at hi2
  obtain⟨h1,h2⟩:=hi2
  have h1':listed.getD i false=false:=by simpa [zD,hil] using h1
  have ho:ops[i]? =some ops[i]:=Array.getElem?_eq_getElem hin
  rw[ho] at h2
  simp only[qf,zQ] at h2
  rw[<-Array.all_toList] at h2
  have hr:∀ e∈ops[i].after.toList,Region.binds .any e=true->listed.getD e.on false=true:=by
   intro e he hb
   have:=zr.1 h2 e he
   rw[hb] at this
   simpa using this
  have hS:∀ k,(listed.setIfInBounds i true).getD k false=(listed.getD k false||Nat.beq k i):=by
   intro k
   simp only[zD,Array.getElem?_setIfInBounds]
   by_cases hk:i=k
   ·subst hk;simp[hil]
   have:Nat.beq k i=false:=Bool.eq_false_iff.mpr fun h=>hk (zE h).symm
   simp[hk,this]
  have hSf:(fun k=>(listed.setIfInBounds i true).getD k false)=(fun k=>listed.getD k false||Nat.beq k i):=funext hS
  refine drawnR_step (P:=P) hes hds hsl hef D ho h1' hr I hn ?_ r
  intro G' a' w' I' Sn hn' hd'
  refine ih (listed.setIfInBounds i true) (by simp[hsz]) ?_ ?_ (by rw[hSf];exact I') hn' ?_
  ·have:=count_set (l:=listed.toList) (i:=i) (by
    have:listed[i]? =some false:=by
     rw[Array.getElem?_eq_getElem hil]
     simpa [zD,hil] using h1'
    simpa using this)
   rw[Array.toList_setIfInBounds];omega
  ·rw[hSf]
   intro j o2 hj ho2 e2 he2 hb2
   simp only[Bool.or_eq_true] at hj ⊢
   rcases hj with hj|hj
   ·exact .inl (D j o2 hj ho2 e2 he2 hb2)
   have:=zE hj
   subst this
   rw[ho] at ho2;cases ho2
   exact .inl (hr e2 he2 hb2)
  intro G2 a2 w2 I2 Sn2 hn2 hd2
  rw[hSf] at Sn2
  exact hK G2 a2 w2 I2 (Sn.trans Sn2) hn2 (hd2.trans hd')
def RG (P:Program) (Y:Tab) (nb:Nat) (ops:Array Oper) (dr:Bool) (os:List Oper) (s:St) (acc:List Ef) (Q:St->Prop):Prop:=
 ∃ es,efsR P Y nb ops os s es/\(dr=true->efPairs ops 0 (acc++es)=true)/\Q (es.foldl stp s)
theorem RG.nil {dr:Bool} {s:St} {acc:List Ef} {Q:St->Prop} (h:dr=true->efPairs ops 0 acc=true) (hq:Q s):RG P Y nb ops dr [] s acc Q:=
 ⟨[],rfl,by simpa using h,hq⟩
theorem RG.cons {dr:Bool} {o:Oper} {os:List Oper} {s:St} {e:Ef} {acc:List Ef} {Q:St->Prop} (h:EfR P Y nb ops s o e) (k:RG P Y nb ops dr os (stp s e) (acc++[e]) Q):RG P Y nb ops dr (o::os) s acc Q:=by
 obtain⟨es,h1,h2,h3⟩:=k
 exact⟨e::es,⟨e,es,rfl,h,h1⟩,by simpa using h2,h3⟩
theorem textR (r:Option Nat):∀ {os:List Oper} {l:List Nat} {s:St} {es:List Ef},efsR P Y nb ops os s es->l.map (fun i=>ops[i]?)=os.map some->os.all (fun o=>dstOk n o.dst)=true->
  ∀ {G:Gh} {a:Act} {w:World} {Q:Exit->Act->World->Prop},Inv G s.vw a w->a.tmps.size=n->
  (∀ G' a' w',Inv G' (es.foldl stp s).vw a' w'->Since nb (qw s.ms) G w (qw (es.foldl stp s).ms) G' w'->a'.tmps.size=n->a'.defers=a.defers->Q .normal a' w')->wpOpsIn (fcR r) 0 P ops Q l a w
 | [],l,s,es,h,hl,_,G,a,w,Q,I,hn,hK=>by
  have:l=[]:=by cases l with|nil=>rfl|cons i l=>simp at hl
  subst this
  simp only[efsR] at h
  subst h
  exact hK G a w I (Since.refl _ _ _ _) hn rfl
 | o::os,l,s,es,h,hl,hda,G,a,w,Q,I,hn,hK=>by
  obtain⟨e,es',rfl,he,hes⟩:=h
  cases l with
  | nil=>simp at hl
  | cons i l=>
  simp only[zA,List.cons.injEq] at hl
  obtain⟨hi,hl⟩:=hl
  simp only[List.all_cons,zj] at hda
  have pd:∀ v,(a.put o.dst v).defers=a.defers:=fun v=>by cases hd:o.dst<;>rfl
  simp only[wpOpsIn,hi]
  have key:=EfR.sound (P:=P) (π:=s) he hda.1 (fun _ _=>rfl) (fun _ _=>rfl) I hn (Q:=Q) (next:=wpOpsIn (fcR r) 0 P ops Q l) ?_
  ·split
   ·rename_i hw;rw[if_pos hw] at key;exact key r
   rename_i hw;rw[if_neg hw] at key;exact⟨fun _ _=>trivial,key⟩
  intro G1 r w1 I1 Sn1
  rw[<-he.dst] at I1 Sn1
  refine textR _ hes hl hda.2 (G:=G1) aV aU ?_
  intro G2 a2 w2 I2 Sn2 hn2 hd2
  exact hK G2 a2 w2 I2 (Sn1.trans Sn2) hn2 (hd2.trans (pd r))
theorem T.rg [Fc] (hm:P.follows .mixedOrders=true) {id:Nat} {dr:Bool} {s:St} {Q:Exit->St->Prop} (hda:jA n (.region id ops dr)=true) (h:RG P Y nb ops dr ops.toList s [] (fun s'=>Q .normal s')):T P n nb (.region id ops dr) s Q:=by
 obtain⟨es,hes,hef,hq⟩:=h
 intro G a w R I hn hK
 simp only[jA,zj] at hda
 cases dr with
 | false=>
  refine wpIn_region (textR (P:=P) _ hes (l:=List.range ops.size) ?_ hda.1 I hn ?_)
  ·apply List.ext_getElem?
   intro i
   simp only[qe]
   by_cases hi:i<ops.size
   ·simp[hi]
   simp[hi]
  intro G' a' w' I' Sn hn' hd'
  exact hK _ _ _ _ _ hq I' Sn hn' (Mks.of hd')
 | true=>
  have hef:=hef rfl
  simp only[zV] at hef
  have hsl:slotsOk ops=true:=by simpa using hda.2
  refine wpIn_region_any hm ?_
  have h0:∀ k,(Array.replicate ops.size false).getD k false=false:=by
   intro k
   simp only[zD,Array.getElem?_replicate]
   split<;>rfl
  have hst:stK s es (fun k=>(Array.replicate ops.size false).getD k false) ops.size=s:=by
   rw[stK_congr (S':=fun _=>false) (fun k _=>h0 k)]
   have:∀ m,stK s es (fun _=>false) m=s:=by
    intro m
    induction m with
    | zero=>rfl
    | succ m ih=>simp only[stK];split<;>simp[ih]
   exact this _
  refine drawnR_any (P:=P) hes hda.1 hsl hef _ ops.size _ ao ao ?_ (G:=G) ?_ hn ?_
  ·intro j o hj;have hj':(Array.replicate ops.size false).getD j false=true:=hj;rw[h0] at hj';cases hj'
  ·rw[hst];exact I.drew _
  rw[hst]
  intro G' a' w' I' Sn hn' hd'
  exact hK _ _ _ _ _ hq I' ⟨⟨Sn.later.base,Sn.later.R0,Sn.later.R0c,Sn.later.R0m,Sn.later.os,Sn.later.tape,Sn.later.output,Sn.later.size,Sn.later.cold,fun e=>qh (Nat.le_succ _) (Sn.later.drawn e)⟩,Sn.keeps,Sn.newb⟩ hn' (Mks.of hd')
end
inductive Fr where
 | seq (y:Code)
 | blk (id:Nat)
 | lp (C:St->Prop)
def PK [Fc] (P:Program) (n nb:Nat) (Q:Exit->St->Prop):List Fr->Exit->St->Prop
 | []=>Q
 | .seq y::K=>fun e s=>match e with
  | .normal=>T P n nb y s (PK P n nb Q K)
  | e=>PK P n nb Q K e s
 | .blk id::K=>fun e s=>match e with
  | .exit i=>if i=id then PK P n nb Q K .normal s else PK P n nb Q K (.exit i) s
  | e=>PK P n nb Q K e s
 | .lp C::K=>fun e s=>match e with
  | .normal=>C s
  | e=>PK P n nb Q K e s
def TK [Fc] (P:Program) (n nb:Nat) (Q:Exit->St->Prop) (c:Code) (K:List Fr) (s:St):Prop:=T P n nb c s (PK P n nb Q K)
section
variable {P:Program} {n nb:Nat} {Q:Exit->St->Prop} {K:List Fr} {c x y:Code} {s:St} {id:Nat}
theorem TK.start [Fc] (h:TK P n nb Q c [] s):T P n nb c s Q:=h
theorem TK.seq [Fc] (h:TK P n nb Q x (.seq y::K) s):TK P n nb Q (.seq x y) K s:=by
 refine T.seq (M:=PK P n nb Q (.seq y::K)) h (fun s' h=>h) (fun e s' he h=>?_)
 cases e<;>first|exact absurd Z he|exact h
theorem TK.block [Fc] (h:TK P n nb Q c (.blk id::K) s):TK P n nb Q (.block id c) K s:=by
 refine T.block (T.mono h fun e s' h=>?_)
 cases e<;>exact h
theorem TK.skip [Fc] (h:PK P n nb Q K .normal s):TK P n nb Q .skip K s:=T.skip h
theorem TK.exit [Fc] {i:Nat} (h:PK P n nb Q K (.exit i) s):TK P n nb Q (.exit i) K s:=T.exit h
theorem TK.ret [Fc] (h:PK P n nb Q K .ret s):TK P n nb Q .ret K s:=T.ret h
theorem TK.cond [Fc] {o:Operand} {b:Bool} (hc:evS s o=lit (.bool b)) (hx:b=true->TK P n nb Q x K s) (hy:b=false->TK P n nb Q y K s):TK P n nb Q (.cond o x y) K s:=T.cond hc hx hy
theorem TK.condT [Fc] {o:Operand} (hc:evS s o=lit (.bool true)) (hx:TK P n nb Q x K s):TK P n nb Q (.cond o x y) K s:=T.cond hc (fun _=>hx) (fun h=>by cases h)
theorem TK.condF [Fc] {o:Operand} (hc:evS s o=lit (.bool false)) (hy:TK P n nb Q y K s):TK P n nb Q (.cond o x y) K s:=T.cond hc (fun h=>by cases h) (fun _=>hy)
theorem PK.seq [Fc] (h:TK P n nb Q y K s):PK P n nb Q (.seq y::K) .normal s:=h
theorem PK.blk [Fc] (h:PK P n nb Q K .normal s):PK P n nb Q (.blk id::K) .normal s:=h
theorem PK.lp [Fc] {C:St->Prop} (h:C s):PK P n nb Q (.lp C::K) .normal s:=h
def cutK (id:Nat):List Fr->Option (List Fr)
 | []=>none
 | .blk i::K=>bif Nat.beq i id then some K else cutK id K
 | _::K=>cutK id K
theorem PK.exit [Fc] {i:Nat}:∀ {K K':List Fr},cutK i K=some K'->PK P n nb Q K' .normal s->PK P n nb Q K (.exit i) s
 | [],_,h,_=>by cases h
 | .seq y::K,K',h,hq=>PK.exit (K:=K) h hq
 | .lp C::K,K',h,hq=>PK.exit (K:=K) h hq
 | .blk j::K,K',h,hq=>by
  simp only[cutK] at h
  cases hb:Nat.beq j i with
  | true=>
   rw[hb] at h
   cases h
   have:=zE hb
   subst this
   show (if j=j then _ else _)
   rw[if_pos rfl];exact hq
  | false=>
   rw[hb] at h
   show (if i=j then _ else _)
   rw[if_neg (fun e=>by subst e;rw[Nat.beq_refl] at hb;cases hb)]
   exact PK.exit (K:=K) h hq
theorem PK.ret [Fc]:∀ {K:List Fr},Q .ret s->PK P n nb Q K .ret s
 | [],h=>h
 | .seq _::K,h=>PK.ret (K:=K) h
 | .blk _::K,h=>PK.ret (K:=K) h
 | .lp _::K,h=>PK.ret (K:=K) h
def AgT (tm:List (Nat×DV)):List (Nat×DV)->Prop
 | []=>True
 | p::l=>jx tm p.1=p.2/\AgT tm l
def AgM (ms:List (Nat×MO)):List (Nat×MO)->Prop
 | []=>True
 | p::l=>qw ms p.1=some p.2/\AgM ms l
theorem AgT.get {tm:List (Nat×DV)}:∀ {l:List (Nat×DV)},AgT tm l->∀ t,jx l t=jx tm t\/jx l t=.dead
 | [],_,t=>.inr (getT_nil t)
 | (k,d)::l,h,t=>by
  obtain⟨h1,h2⟩:=h
  rw[ju]
  split
  ·rename_i e;subst e;exact .inl h1.symm
  exact AgT.get h2 t
theorem AgM.look {ms:List (Nat×MO)}:∀ {l:List (Nat×MO)},AgM ms l->∀ h o,qw l h=some o->qw ms h=some o
 | [],_,h,o,e=>by cases e
 | (k,o')::l,⟨h1,h2⟩,h,o,e=>by
  rw[qG] at e
  split at e
  ·rename_i hk;subst hk;cases e;exact h1
  exact AgM.look h2 h o e
structure Sub (nb:Nat) (s S:St):Prop where
 tm:AgT s.tm S.tm
 ms:AgM s.ms S.ms
 shut:(jm S.ms&&S.tm.all (fun p=>p.2.refs.all (j8 S.ms))&&s.ms.all (fun p=>Nat.ble nb p.1||j8 S.ms p.1))=true
theorem Sub.wk {s S:St} (h:Sub nb s S):Wk nb s S:=by
 intro G a w I
 obtain⟨h1,h2,h3⟩:=h
 simp only[zj,zr] at h3
 obtain⟨⟨k1,k2⟩,k3⟩:=h3
 refine I.keep (K:=nb) (tm:=S.tm) (ms:=S.ms) (fun t=>h1.get t) (fun k o ho=>h2.look k o ho) (fun k o hk ho=>?_) (fun t k hh=>?_) (jP k1)
 ·have:=k3 _ (jt ho)
  simp only[Bool.or_eq_true,Nat.ble_eq] at this
  rcases this with e|e
  ·omega
  exact ke.1 e
 obtain⟨p,hp,hh'⟩:=getT_mem hh
 exact ke.1 (k2 p hp k hh')
theorem TK.norm [Fc] (S:St) (h:Sub nb s S) (k:TK P n nb Q c K S):TK P n nb Q c K s:=T.weak h.wk k
def LP {α:Type} (nb:Nat) (S:α->St) (I:α->Prop) (m:α->Nat) (x:α) (s:St):Prop:=∃ x',I x'/\m x' < m x/\Sub nb s (S x')
theorem LP.mk {α:Type} {S:α->St} {I:α->Prop} {m:α->Nat} {x:α} (x':α) (h1:I x') (h2:m x' < m x) (h3:Sub nb s (S x')):LP nb S I m x s:=⟨x',h1,h2,h3⟩
theorem TK.loop [Fc] {α:Type} (S:α->St) (I:α->Prop) (m:α->Nat) (x0:α) (h0:I x0) (hs:Sub nb s (S x0))
  (hb:∀ x,I x->TK P n nb Q c (.lp (LP nb S I m x)::K) (S x)):TK P n nb Q (.loop c) K s:=by
 refine T.loop (fun k s=>∃ x,I x/\m x=k/\Sub nb s (S x)) ?_ (k:=m x0) ⟨x0,h0,rfl,hs⟩
 rintro k s' ⟨x,hI,rfl,hs'⟩
 refine T.weak hs'.wk (T.mono (hb x hI) fun e s2 h=>?_)
 cases e with
 | normal=>
  obtain⟨x',h1,h2,h3⟩:=h
  exact⟨m x',h2,x',h1,rfl,h3⟩
 | _=>exact h
theorem TK.rg [Fc] {Y:Tab} [qM P Y] (hm:P.follows .mixedOrders=true) {id:Nat} {ops:Array Oper} {dr:Bool} (hda:jA n (.region id ops dr)=true)
  (h:RG P Y nb ops dr ops.toList s [] (PK P n nb Q K .normal)):TK P n nb Q (.region id ops dr) K s:=T.rg (Y:=Y) hm hda h
end
noncomputable def ev1 (s:St) (x:Operand):DV:=evD (evS s x)
section
variable {P:Program} {Y:Tab} {nb:Nat} {s:St} {ops:Array Oper} {o:Oper}
theorem tmpsOf_mem {xs:List Operand} {t:Tmp} (h:Operand.tmp t∈xs):t∈tmpsOf xs:=by
 unfold tmpsOf
 exact List.mem_filterMap.2 ⟨_,h,rfl⟩
theorem qW {xs:List Operand} {x:Operand} (hx:x∈xs):evU (tmpsOf xs) s x=ev1 s x:=by
 unfold evU ev1
 congr 1
 cases x with
 | tmp t=>
  simp only[evT,evS]
  have:(tmpsOf xs).any (Nat.beq t)=true:=List.any_eq_true.2 ⟨t,tmpsOf_mem hx,Nat.beq_refl t⟩
  rw[this];rfl
 | _=>rfl
noncomputable def O0:Orc:=fun _ _ _ _=>none
theorem kl (P:Program):OrcOk P O0:=fun _ _ _ _ _ _ h=>by cases h
open Classical in
noncomputable def one (f:FuncId) (ds:List DV) (l:List (Nat×MO)) (val:DV) (out:List (Nat×MO)):Orc:=fun f' _ ds' l'=>if f'=f/\ds'=ds/\l'=l then some (val,out) else none
theorem one_ok {f:FuncId} {ds:List DV} {l:List (Nat×MO)} {val:DV} {out:List (Nat×MO)} (h:qD P f ds (qw l) val out):OrcOk P (one f ds l val out):=by
 intro f' lo ds' l' v m e
 unfold one at e
 split at e
 ·rename_i hq
  obtain⟨rfl,rfl,rfl⟩:=hq
  cases e
  exact h
 cases e
theorem one_eq (f:FuncId) (ds:List DV) (l:List (Nat×MO)) (val:DV) (out:List (Nat×MO)) (lo:Nat):one f ds l val out f lo ds l=some (val,out):=by
 unfold one;rw[if_pos ⟨rfl,rfl,rfl⟩]
theorem ledM_nil (ms:List (Nat×MO)) (k:Nat):ledM ms [] k=[]:=by
 match k with
 | 0=>rfl
 | 1=>rfl
 | k+2=>simp only[ledM];rfl
theorem rdM_nil (ms:List (Nat×MO)) (k:Nat):rdM ms [] [] k=[]:=by
 match k with
 | 0=>rfl
 | 1=>rfl
 | k+2=>rfl
theorem B.of0 {O:Orc} {val0 val:DV} {m0 m:List (Nat×MO)} {lo nm:Nat} (hO:OrcOk P O) (hr:∀ x∈o.op.operands.toList,(ev1 s x).refs=[])
  (h:effX O Y lo nm o (evU (tmpsOf o.op.operands.toList) s) []=some (val0,m0)) (hz:Frz [] val0 m0 val m) (hm:m.all (fun p=>!j8 s.ms p.1)=true):Body P Y nb s o val m []:=by
 have hrs:(o.op.operands.toList.flatMap fun x=>(evU (tmpsOf o.op.operands.toList) s x).refs)=[]:=by
  rw[List.flatMap_eq_nil_iff]
  intro x hx
  rw[qW hx];exact hr x hx
 refine .inl ⟨O,[],val0,m0,lo,nm,hO,?_,?_,?_,h,hz,?_⟩
 ·rw[hrs];exact ledM_nil _ _
 ·rw[hrs];exact rdM_nil _ _
 ·rw[hrs];rfl
 rw[<-hm]
 apply congrArg (List.all m)
 funext p
 simp[j8,lookM_eq,ji]
theorem B.pure {O:Orc} {val:DV} {lo nm:Nat} (hO:OrcOk P O) (hr:∀ x∈o.op.operands.toList,(ev1 s x).refs=[])
  (h:effX O Y lo nm o (evU (tmpsOf o.op.operands.toList) s) []=some (val,[])):Body P Y nb s o val [] []:=
 B.of0 hO hr h (Frz.refl _ _ _) rfl
section
variable {dst:Option Tmp} {ty u:TypeId} {pos:String} {af:Array Edge} {gd:Option (Nat×Bool)} {t:TypeId} {x y:Operand}
theorem B.move {p:PV} (h:ev1 s x=.pv p):Body P Y nb s ⟨dst,.move x,ty,pos,af,gd⟩ (.pv p) [] []:=by
 refine B.pure (lo:=0) (nm:=0) (kl P) ?_ ?_
 ·intro z hz
  have:z=x:=by simpa [Op.operands] using hz
  rw[this,h];rfl
 show mvE (evU (tmpsOf [x]) s x)=_
 rw[qW ao,h];rfl
theorem B.assign {p:PV} (h:ev1 s x=.pv p):Body P Y nb s ⟨dst,.assign x,ty,pos,af,gd⟩ (.pv p) [] []:=by
 refine B.pure (lo:=0) (nm:=0) (kl P) ?_ ?_
 ·intro z hz
  have:z=x:=by simpa [Op.operands] using hz
  rw[this,h];rfl
 show mvE (evU (tmpsOf [x]) s x)=_
 rw[qW ao,h];rfl
theorem B.bin {op:BinOp} {a b:PV} {val:DV} (hx:ev1 s x=.pv a) (hy:ev1 s y=.pv b) (h:binE Y op t (qw []) (kP y) (.pv a) (.pv b)=some (val,[])) :
  Body P Y nb s ⟨dst,.binOp op t x y u,ty,pos,af,gd⟩ val [] []:=by
 refine B.pure (lo:=0) (nm:=0) (kl P) ?_ ?_
 ·intro z hz
  have:z=x\/z=y:=by simpa [Op.operands] using hz
  rcases this with rfl|rfl
  ·rw[hx];rfl
  rw[hy];rfl
 show binF Y op t (qw []) (kP y) (evU (tmpsOf [x,y]) s x) (evU (tmpsOf [x,y]) s y)=_
 rw[qW ao,qW ao,hx,hy,binF_eq];exact h
theorem B.add {a b:Int} (hx:ev1 s x=lit (.int .i64 a)) (hy:ev1 s y=lit (.int .i64 b)) (h:R64 (a+b)):Body P Y nb s ⟨dst,.binOp .add t x y u,ty,pos,af,gd⟩ (lit (.int .i64 (a+b))) [] []:=by
 refine B.bin hx hy ?_
 show qE (some (in64 (a+b),lit (.int .i64 (a+b))))=_
 have:in64 (a+b)=true:=zl h
 rw[this];rfl
theorem B.sub {a b:Int} (hx:ev1 s x=lit (.int .i64 a)) (hy:ev1 s y=lit (.int .i64 b)) (h:R64 (a-b)):Body P Y nb s ⟨dst,.binOp .sub t x y u,ty,pos,af,gd⟩ (lit (.int .i64 (a-b))) [] []:=by
 refine B.bin hx hy ?_
 show qE (some (in64 (a-b),lit (.int .i64 (a-b))))=_
 have:in64 (a-b)=true:=zl h
 rw[this];rfl
theorem B.mul {a b:Int} (hx:ev1 s x=lit (.int .i64 a)) (hy:ev1 s y=lit (.int .i64 b)) (h:R64 (a*b)):Body P Y nb s ⟨dst,.binOp .mul t x y u,ty,pos,af,gd⟩ (lit (.int .i64 (a*b))) [] []:=by
 refine B.bin hx hy ?_
 show qE (some (in64 (a*b),lit (.int .i64 (a*b))))=_
 have:in64 (a*b)=true:=zl h
 rw[this];rfl
theorem B.quo {a b:Int} (hx:ev1 s x=lit (.int .i64 a)) (hy:ev1 s y=lit (.int .i64 b)) (h:b≠0/\R64 (a.tdiv b)):Body P Y nb s ⟨dst,.binOp .quo t x y u,ty,pos,af,gd⟩ (lit (.int .i64 (a.tdiv b))) [] []:=by
 refine B.bin hx hy ?_
 show qE (some (b != 0&&in64 (a.tdiv b),lit (.int .i64 (a.tdiv b))))=_
 have:in64 (a.tdiv b)=true:=zl h.2
 have h0:(b != 0)=true:=by simpa using h.1
 rw[this,h0];rfl
theorem B.rem {a b:Int} (hx:ev1 s x=lit (.int .i64 a)) (hy:ev1 s y=lit (.int .i64 b)) (h:b≠0):Body P Y nb s ⟨dst,.binOp .rem t x y u,ty,pos,af,gd⟩ (lit (.int .i64 (a.tmod b))) [] []:=by
 refine B.bin hx hy ?_
 show qE (some (b != 0,lit (.int .i64 (a.tmod b))))=_
 have h0:(b != 0)=true:=by simpa using h
 rw[h0];rfl
section
variable {k:IntKind} {a b:Int}
theorem kk (k:IntKind):(if k=k then (some true:Option Bool) else none)=some true:=if_pos rfl
theorem B.lss (hx:ev1 s x=lit (.int k a)) (hy:ev1 s y=lit (.int k b)):Body P Y nb s ⟨dst,.binOp .lss t x y u,ty,pos,af,gd⟩ (lit (.bool (decide (a<b)))) [] []:=by
 refine B.bin hx hy ?_
 cases k<;>rfl
theorem B.leq (hx:ev1 s x=lit (.int k a)) (hy:ev1 s y=lit (.int k b)):Body P Y nb s ⟨dst,.binOp .leq t x y u,ty,pos,af,gd⟩ (lit (.bool (decide (a<=b)))) [] []:=by
 refine B.bin hx hy ?_
 cases k<;>rfl
theorem B.gtr (hx:ev1 s x=lit (.int k a)) (hy:ev1 s y=lit (.int k b)):Body P Y nb s ⟨dst,.binOp .gtr t x y u,ty,pos,af,gd⟩ (lit (.bool (decide (b<a)))) [] []:=by
 refine B.bin hx hy ?_
 cases k<;>rfl
theorem B.geq (hx:ev1 s x=lit (.int k a)) (hy:ev1 s y=lit (.int k b)):Body P Y nb s ⟨dst,.binOp .geq t x y u,ty,pos,af,gd⟩ (lit (.bool (decide (b<=a)))) [] []:=by
 refine B.bin hx hy ?_
 cases k<;>rfl
theorem B.eql (hx:ev1 s x=lit (.int k a)) (hy:ev1 s y=lit (.int k b)):Body P Y nb s ⟨dst,.binOp .eql t x y u,ty,pos,af,gd⟩ (lit (.bool (decide (a=b)))) [] []:=by
 refine B.bin hx hy ?_
 have:(a==b)=decide (a=b):=rfl
 cases k<;>rfl
theorem B.neq (hx:ev1 s x=lit (.int k a)) (hy:ev1 s y=lit (.int k b)):Body P Y nb s ⟨dst,.binOp .neq t x y u,ty,pos,af,gd⟩ (lit (.bool (decide (a≠b)))) [] []:=by
 refine B.bin hx hy ?_
 have:decide (a≠b)=(a != b):=by rw[zM];simp
 rw[this]
 cases k<;>rfl
end
section
variable {a b:ByteArray}
theorem toList_inj {a b:ByteArray}:a.toList=b.toList↔a=b:=by
 constructor
 ·intro h
  rw[ByteArray.toList_eq,ByteArray.toList_eq] at h
  exact ByteArray.ext (Array.toList_inj.1 h)
 rintro rfl;rfl
theorem B.seql (hx:ev1 s x=lit (.string a)) (hy:ev1 s y=lit (.string b)):Body P Y nb s ⟨dst,.binOp .eql t x y u,ty,pos,af,gd⟩ (lit (.bool (decide (a=b)))) [] []:=by
 refine B.bin hx hy ?_
 have:decide (a=b)=(a.toList==b.toList):=by rw[zM];simp[toList_inj]
 rw[this];rfl
theorem B.sneq (hx:ev1 s x=lit (.string a)) (hy:ev1 s y=lit (.string b)):Body P Y nb s ⟨dst,.binOp .neq t x y u,ty,pos,af,gd⟩ (lit (.bool (decide (a≠b)))) [] []:=by
 refine B.bin hx hy ?_
 have:decide (a≠b)=!(a.toList==b.toList):=by rw[zM];simp[toList_inj]
 rw[this];rfl
end
theorem B.not {b:Bool} (hx:ev1 s x=lit (.bool b)):Body P Y nb s ⟨dst,.unOp .not t x,ty,pos,af,gd⟩ (lit (.bool (!b))) [] []:=by
 refine B.pure (lo:=0) (nm:=0) (kl P) ?_ ?_
 ·intro z hz
  have:z=x:=by simpa [Op.operands] using hz
  rw[this,hx];rfl
 show qE (unQ .not (evU (tmpsOf [x]) s x))=_
 rw[qW ao,hx];rfl
theorem B.neg {a:Int} (hx:ev1 s x=lit (.int .i64 a)) (h:R64 (0-a)):Body P Y nb s ⟨dst,.unOp .neg t x,ty,pos,af,gd⟩ (lit (.int .i64 (0-a))) [] []:=by
 refine B.pure (lo:=0) (nm:=0) (kl P) ?_ ?_
 ·intro z hz
  have:z=x:=by simpa [Op.operands] using hz
  rw[this,hx];rfl
 show qE (unQ .neg (evU (tmpsOf [x]) s x))=_
 rw[qW ao,hx]
 show qE (some (in64 (0-a),lit (.int .i64 (0-a))))=_
 have:in64 (0-a)=true:=zl h
 rw[this];rfl
theorem B.pick {c x y:Operand} {β x' y':Bool} {sx sy:Bool} (hc:ev1 s c=lit (.bool β)) (hrx:(evS s x).refs=[]) (hry:(evS s y).refs=[]) (hx:gdBool (ev1 s x)=some (sx,x')) (hy:gdBool (ev1 s y)=some (sy,y')) (h:(bif β then sx else sy)=true) :
  Body P Y nb s ⟨dst,.pick c x y,ty,pos,af,gd⟩ (lit (.bool (bif β then x' else y'))) [] []:=by
 refine B.pure (lo:=0) (nm:=0) (kl P) ?_ ?_
 ·intro z hz
  have:z=c\/z=x\/z=y:=by simpa [Op.operands] using hz
  rcases this with rfl|rfl|rfl
  ·rw[hc];rfl
  ·unfold ev1;rw[refs_evD];exact hrx
  unfold ev1;rw[refs_evD];exact hry
 have e1:evU (tmpsOf [c,x,y]) s c=_:=(qW ao).trans hc
 have e2:evU (tmpsOf [c,x,y]) s x=_:=qW ao
 have e3:evU (tmpsOf [c,x,y]) s y=_:=qW ao
 have hq:qv Y (.pick c x y) (evU (tmpsOf [c,x,y]) s) (qw [])=some (true,lit (.bool (bif β then x' else y'))):=by
  simp only[qv,e1,e2,e3,lit,hx,hy,h]
 show (match effV Y 0 dst (.pick c x y) (evU (tmpsOf [c,x,y]) s) (qw []) with|some ⟨true,v,m⟩=>some (v,m)|_=>none)=_
 have:effV Y 0 dst (.pick c x y) (evU (tmpsOf [c,x,y]) s) (qw [])=Zl (qv Y (.pick c x y) (evU (tmpsOf [c,x,y]) s) (qw [])):=rfl
 rw[this,hq];rfl
theorem qz {c:Bool} {d:DV} (h:evS s x=.gd c d) (hc:c=true):ev1 s x=d:=by
 unfold ev1;rw[h,hc];rfl
theorem gdB {c b:Bool} (h:evS s x=.gd c (lit (.bool b))):gdBool (ev1 s x)=some (c,b):=by
 unfold ev1;rw[h];cases c<;>rfl
theorem pick_tt (β:Bool):(bif β then true else true)=true:=by cases β<;>rfl
theorem jj (β:Bool):(bif β then true else (β==false))=true:=by cases β<;>rfl
theorem q0 (β:Bool):(bif β then (β==true) else true)=true:=by cases β<;>rfl
theorem pick_or2 {c β:Bool} (h:c=true):(bif β then true else (c&&(β==false)))=true:=by subst h;cases β<;>rfl
theorem pick_and2 {c β:Bool} (h:c=true):(bif β then (c&&(β==true)) else true)=true:=by subst h;cases β<;>rfl
theorem B.idx {α:Type} {enc:α->List PV} {l:List α} {z:α} {i:Nat} {k:IntKind} {n:Int} {e:TypeId} {sz:Nat} (hx:ev1 s x=.pv (.slice (l.map enc))) (hy:ev1 s y=lit (.int k n))
  (und:Y.underlying t=some (.slice e)) (hs:szT Y e=some sz) (hsz:∀ a,(enc a).length=sz) (hn:n=(i:Int)) (hlt:i<l.length) :
  Body P Y nb s ⟨dst,.indexAddr t x y,ty,pos,af,gd⟩ (.pv (.box (enc (l.getD i z)))) [] []:=by
 refine B.pure (lo:=0) (nm:=0) (kl P) ?_ ?_
 ·intro v hv
  have:v=x\/v=y:=by simpa [Op.operands] using hv
  rcases this with rfl|rfl
  ·rw[hx];rfl
  rw[hy];rfl
 show qE (jT Y t (qw []) (evU (tmpsOf [x,y]) s x) (evU (tmpsOf [x,y]) s y))=_
 rw[qW ao,qW ao,hx,hy]
 show qE (jC Y t (qw []) (.pv (.slice (l.map enc))) (lit (.int k n)))=_
 unfold jC lit
 rw[und]
 simp only[hs]
 have h1:decide (0<=n/\n<((l.map enc).length:Int))=true:=by
  refine zl ⟨aa,by rw[zJ];omega⟩
 have h2:jO sz (l.map enc)=true:=by
  unfold jO
  rw[zr]
  intro a ha
  obtain⟨b,_,rfl⟩:=zF.1 ha
  simpa using hsz b
 have h3:(l.map enc).getD n.toNat []=enc (l.getD i z):=by
  subst hn
  simp only[zU,ze,qe,zm hlt,qf,zQ]
 rw[h1,h2,h3];rfl
theorem B.loadP {p:PV} {cs:List PV} (hx:ev1 s x=.pv (.box (p::cs))) (ha:aggT Y t=some false) {n:Nat} (hs:szT Y t=some n):Body P Y nb s ⟨dst,.load t x,ty,pos,af,gd⟩ (.pv p) [] []:=by
 refine B.pure (lo:=0) (nm:=0) (kl P) ?_ ?_
 ·intro z hz
  have:z=x:=by simpa [Op.operands] using hz
  rw[this,hx];rfl
 show qE (Zh Y t (qw []) (evU (tmpsOf [x]) s x))=_
 rw[qW ao,hx]
 unfold Zh
 rw[ha,hs];rfl
theorem B.loadA {ds cs:List PV} (hx:ev1 s x=.pv (.box cs)) (ha:aggT Y t=some true) {n:Nat} (hs:szT Y t=some n) (hn:n<=cs.length) (hd:cs.take n=ds):Body P Y nb s ⟨dst,.load t x,ty,pos,af,gd⟩ (.pv (.agg ds)) [] []:=by
 refine B.pure (lo:=0) (nm:=0) (kl P) ?_ ?_
 ·intro z hz
  have:z=x:=by simpa [Op.operands] using hz
  rw[this,hx];rfl
 show qE (Zh Y t (qw []) (evU (tmpsOf [x]) s x))=_
 rw[qW ao,hx]
 unfold Zh
 rw[ha,hs]
 have:decide (n<=cs.length)=true:=zl hn
 simp only[qp,this,hd];rfl
def fadQ (Y:Tab) (t:TypeId) (f:Nat):Option Nat:=match fieldOf Y t f with
 | some fd=>match szT Y fd.type with
  | some (_+1)=>some fd.offset
  | _=>none
 | none=>none
theorem fadQ_spec {f off:Nat} (h:fadQ Y t f=some off):∃ fd n,fieldOf Y t f=some fd/\szT Y fd.type=some (n+1)/\fd.offset=off:=by
 unfold fadQ at h
 split at h
 ·rename_i fd hf
  split at h
  ·rename_i n hn;cases h;exact⟨fd,n,hf,hn,rfl⟩
  cases h
 cases h
theorem B.fadP {f off:Nat} {cs cs':List PV} (hx:ev1 s x=.pv (.box cs)) (hf:fadQ Y t f=some off) (hd:cs.drop off=cs'):Body P Y nb s ⟨dst,.fieldAddr t x f,ty,pos,af,gd⟩ (.pv (.box cs')) [] []:=by
 obtain⟨fd,n,h1,h2,rfl⟩:=fadQ_spec hf
 refine B.pure (lo:=0) (nm:=0) (kl P) ?_ ?_
 ·intro z hz
  have:z=x:=by simpa [Op.operands] using hz
  rw[this,hx];rfl
 show qE (jK Y t f (qw []) (evU (tmpsOf [x]) s x))=_
 rw[qW ao,hx]
 unfold jK
 simp only[h1,h2,hd];rfl
theorem B.fadB {f off h c c':Nat} (hx:ev1 s x=.bref h c) (hf:fadQ Y t f=some off) (hc:c+off=c'):Body P Y nb s ⟨dst,.fieldAddr t x f,ty,pos,af,gd⟩ (.bref h c') [] []:=by
 obtain⟨fd,n,h1,h2,rfl⟩:=fadQ_spec hf
 have e:evU (tmpsOf [x]) s x=.bref h c:=(qW ao).trans hx
 refine .inl ⟨O0,[(h,.gone)],_,_,0,0,kl P,?_,?_,?_,?_,Frz.refl _ _ _,rfl⟩
 ·show ledM s.ms ([x].flatMap fun x'=>(evU (tmpsOf [x]) s x').refs) (lvl (.fieldAddr t x f) (evU (tmpsOf [x]) s))=_
  simp only[List.flatMap_cons,List.flatMap_nil,zS,lvl,e,DV.refs,ledM,zA,z6]
 ·show rdM s.ms ([x].flatMap fun x'=>(evU (tmpsOf [x]) s x').refs) [(h,.gone)] (lvl (.fieldAddr t x f) (evU (tmpsOf [x]) s))=_
  simp only[List.flatMap_cons,List.flatMap_nil,zS,lvl,e,DV.refs,rdM]
 ·show (jm [(h,.gone)]&&([x].flatMap fun x'=>(evU (tmpsOf [x]) s x').refs).all (j8 [(h,.gone)]))=true
  simp[e,DV.refs,jm,MO.refs,j8,qG]
 show qE (jK Y t f (qw [(h,.gone)]) (evU (tmpsOf [x]) s x))=_
 rw[e]
 unfold jK
 simp only[h1,h2,hc];rfl
theorem ledB {h c:Nat} {T:TypeId} {ds:List DV} {ms:List (Nat×MO)} (hm:qw ms h=some (.box T ds)) (hr:DV.qP ds=[]):ledM ms (DV.bref h c).refs 1=[(h,.box T ds)]/\rdM ms (DV.bref h c).refs [(h,.box T ds)] 1=[h]:=by
 simp only[DV.refs,ledM,nearM,rdM,sel,hm,List.flatMap_cons,List.flatMap_nil,MO.refs,hr,zS,z6,zA,and_self]
theorem B.kJ {h c:Nat} {T:TypeId} {ds:List DV} {d:DV} (hx:ev1 s x=.bref h c) (hm:qw s.ms h=some (.box T ds)) (hr:DV.qP ds=[]) (ha:aggT Y t=some false) {n:Nat} (hs:szT Y t=some n) (hd:ds[c]? =some d) :
  Body P Y nb s ⟨dst,.load t x,ty,pos,af,gd⟩ d [] [h]:=by
 have e:evU (tmpsOf [x]) s x=.bref h c:=(qW ao).trans hx
 have hc:c<ds.length:=(List.getElem?_eq_some_iff.1 hd).1
 refine .inl ⟨O0,[(h,.box T ds)],_,_,0,0,kl P,?_,?_,?_,?_,Frz.refl _ _ _,rfl⟩
 ·show ledM s.ms ([x].flatMap fun x'=>(evU (tmpsOf [x]) s x').refs) 1=_
  simp only[List.flatMap_cons,List.flatMap_nil,zS,e];exact (ledB hm hr).1
 ·show rdM s.ms ([x].flatMap fun x'=>(evU (tmpsOf [x]) s x').refs) [(h,.box T ds)] 1=_
  simp only[List.flatMap_cons,List.flatMap_nil,zS,e];exact (ledB hm hr).2
 ·show (jm [(h,.box T ds)]&&([x].flatMap fun x'=>(evU (tmpsOf [x]) s x').refs).all (j8 [(h,.box T ds)]))=true
  simp[e,DV.refs,jm,MO.refs,j8,qG,hr]
 show qE (Zh Y t (qw [(h,.box T ds)]) (evU (tmpsOf [x]) s x))=_
 rw[e]
 unfold Zh
 rw[ha,hs]
 have:decide (c<ds.length)=true:=zl hc
 have e2:qw [(h,MO.box T ds)] h=some (.box T ds):=by rw[qG,if_pos rfl]
 simp only[e2,qo,qq,this,ze,hd,zQ];rfl
theorem B.loadBA {h c:Nat} {T:TypeId} {ds:List DV} {d:DV} (hx:ev1 s x=.bref h c) (hm:qw s.ms h=some (.box T ds)) (hr:DV.qP ds=[]) (ha:aggT Y t=some true) {n:Nat} (hs:szT Y t=some n) (hc:Nat.ble (c+n) ds.length=true) (hd:mkAgg ((ds.drop c).take n)=d) :
  Body P Y nb s ⟨dst,.load t x,ty,pos,af,gd⟩ d [] [h]:=by
 have e:evU (tmpsOf [x]) s x=.bref h c:=(qW ao).trans hx
 refine .inl ⟨O0,[(h,.box T ds)],_,_,0,0,kl P,?_,?_,?_,?_,Frz.refl _ _ _,rfl⟩
 ·show ledM s.ms ([x].flatMap fun x'=>(evU (tmpsOf [x]) s x').refs) 1=_
  simp only[List.flatMap_cons,List.flatMap_nil,zS,e];exact (ledB hm hr).1
 ·show rdM s.ms ([x].flatMap fun x'=>(evU (tmpsOf [x]) s x').refs) [(h,.box T ds)] 1=_
  simp only[List.flatMap_cons,List.flatMap_nil,zS,e];exact (ledB hm hr).2
 ·show (jm [(h,.box T ds)]&&([x].flatMap fun x'=>(evU (tmpsOf [x]) s x').refs).all (j8 [(h,.box T ds)]))=true
  simp[e,DV.refs,jm,MO.refs,j8,qG,hr]
 show qE (Zh Y t (qw [(h,.box T ds)]) (evU (tmpsOf [x]) s x))=_
 rw[e]
 unfold Zh
 rw[ha,hs]
 have:decide (c+n<=ds.length)=true:=zl (zZ hc)
 have e2:qw [(h,MO.box T ds)] h=some (.box T ds):=by rw[qG,if_pos rfl]
 simp only[e2,qp,this,hd];rfl
theorem B.lenQ1 {a:PV} {d:DV} {at':TypeId} (hx:ev1 s x=.pv a) (h:lenQ Y at' (qw []) (.pv a)=some (true,d)):Body P Y nb s ⟨dst,.call ⟨.builtin .len,⟨[x]⟩,⟨[at']⟩⟩,ty,pos,af,gd⟩ d [] []:=by
 refine B.pure (lo:=0) (nm:=0) (kl P) ?_ ?_
 ·intro z hz
  have:z=x:=by simpa [Op.operands,Call.operands] using hz
  rw[this,hx];rfl
 have e:evU (tmpsOf [x]) s x=.pv a:=(qW ao).trans hx
 show (match Zl (lenQ Y at' (qw []) (evU (tmpsOf [x]) s x)) with|some ⟨true,v,m⟩=>some (v,m)|_=>none)=_
 rw[e,h];rfl
theorem B.jW {α:Type} {enc:α->List PV} {l:List α} {at' e:TypeId} (hx:ev1 s x=.pv (.slice (l.map enc))) (hu:Y.underlying at'=some (.slice e)):Body P Y nb s ⟨dst,.call ⟨.builtin .len,⟨[x]⟩,⟨[at']⟩⟩,ty,pos,af,gd⟩ (lit (.int .i64 (l.length:Int))) [] []:=by
 refine B.lenQ1 hx ?_
 unfold lenQ
 rw[hu]
 simp[lenOf]
theorem B.lenS {a:ByteArray} {at':TypeId} (hx:ev1 s x=lit (.string a)) (hu:Y.underlying at'=some .string):Body P Y nb s ⟨dst,.call ⟨.builtin .len,⟨[x]⟩,⟨[at']⟩⟩,ty,pos,af,gd⟩ (lit (.int .i64 (a.size:Int))) [] []:=by
 refine B.lenQ1 hx ?_
 unfold lenQ
 rw[hu]
theorem B.max {y:Operand} {k:IntKind} {a b:Int} {ats:Array TypeId} (hx:ev1 s x=lit (.int k a)) (hy:ev1 s y=lit (.int k b)):Body P Y nb s ⟨dst,.call ⟨.builtin .max,⟨[x,y]⟩,ats⟩,ty,pos,af,gd⟩ (lit (.int k (Max.max a b))) [] []:=by
 refine B.pure (lo:=0) (nm:=0) (kl P) ?_ ?_
 ·intro z hz
  have:z=x\/z=y:=by simpa [Op.operands,Call.operands] using hz
  rcases this with rfl|rfl
  ·rw[hx];rfl
  rw[hy];rfl
 have e1:evU (tmpsOf [x,y]) s x=_:=(qW ao).trans hx
 have e2:evU (tmpsOf [x,y]) s y=_:=(qW ao).trans hy
 show (match Zl (maxQ2 true [evU (tmpsOf [x,y]) s x,evU (tmpsOf [x,y]) s y]) with|some ⟨true,v,m⟩=>some (v,m)|_=>none)=_
 rw[e1,e2]
 have:(if a<b then b else a)=Max.max a b:=by rw[Int.max_def];split<;>split<;>omega
 simp only[maxQ2,lit,qp,this,Zl]
theorem B.min {y:Operand} {k:IntKind} {a b:Int} {ats:Array TypeId} (hx:ev1 s x=lit (.int k a)) (hy:ev1 s y=lit (.int k b)):Body P Y nb s ⟨dst,.call ⟨.builtin .min,⟨[x,y]⟩,ats⟩,ty,pos,af,gd⟩ (lit (.int k (Min.min a b))) [] []:=by
 refine B.pure (lo:=0) (nm:=0) (kl P) ?_ ?_
 ·intro z hz
  have:z=x\/z=y:=by simpa [Op.operands,Call.operands] using hz
  rcases this with rfl|rfl
  ·rw[hx];rfl
  rw[hy];rfl
 have e1:evU (tmpsOf [x,y]) s x=_:=(qW ao).trans hx
 have e2:evU (tmpsOf [x,y]) s y=_:=(qW ao).trans hy
 show (match Zl (maxQ2 false [evU (tmpsOf [x,y]) s x,evU (tmpsOf [x,y]) s y]) with|some ⟨true,v,m⟩=>some (v,m)|_=>none)=_
 rw[e1,e2]
 have:(if b<a then b else a)=Min.min a b:=by rw[Int.min_def];split<;>split<;>omega
 simp only[maxQ2,lit,qp,qo,qq,this,Zl]
theorem B.slT {α:Type} {enc:α->List PV} {l:List α} {hi:Operand} {k:IntKind} {n:Int} {j:Nat} {e:TypeId} {sz:Nat} (hx:ev1 s x=.pv (.slice (l.map enc))) (hy:ev1 s hi=lit (.int k n)) (hu:Y.underlying t=some (.slice e)) (hs:szT Y e=some sz) (hn:n=(j:Int)) (hj:j<=l.length) :
  Body P Y nb s ⟨dst,.slice t x none (some hi) none,ty,pos,af,gd⟩ (.pv (.slice ((l.take j).map enc))) [] []:=by
 refine B.pure (lo:=0) (nm:=0) (kl P) ?_ ?_
 ·intro z hz
  have:z=x\/z=hi:=by simpa [Op.operands] using hz
  rcases this with rfl|rfl
  ·rw[hx];rfl
  rw[hy];rfl
 have e1:evU (tmpsOf [x,hi]) s x=_:=(qW ao).trans hx
 have e2:evU (tmpsOf [x,hi]) s hi=_:=(qW ao).trans hy
 have hv:effV Y 0 dst (.slice t x none (some hi) none) (evU (tmpsOf [x,hi]) s) (qw [])=Zl (kn Y t (qw []) (evU (tmpsOf [x,hi]) s x) none (some (evU (tmpsOf [x,hi]) s hi)) none):=rfl
 show (match effV Y 0 dst (.slice t x none (some hi) none) (evU (tmpsOf [x,hi]) s) (qw []) with|some ⟨true,v,m⟩=>some (v,m)|_=>none)=_
 rw[hv,e1,e2]
 have hq:kn Y t (qw []) (.pv (.slice (l.map enc))) none (some (lit (.int k n))) none=some (true,.pv (.slice ((l.take j).map enc))):=by
  show ku Y t (qw []) (.pv (.slice (l.map enc))) none (some (lit (.int k n))) none=_
  unfold ku lit
  simp only[hu,bound,hs,zQ]
  subst hn
  have:decide (0<=(j:Int)/\(j:Int)<=((l.map enc).length:Int))=true:=zl ⟨aa,by rw[zJ];omega⟩
  rw[this,zU,List.map_take]
 rw[hq];rfl
end
noncomputable def bodyX (Y:Tab) (nb:Nat) (s:St) (o:Oper):Option (DV×List (Nat×MO)×List Nat):=
 let xs:=o.op.operands.toList
 let ev:=evU (tmpsOf xs) s
 let rs:=xs.flatMap fun x=>(ev x).refs
 let l:=ledM s.ms rs (lvl o.op ev)
 bif jm l&&rs.all (j8 l) then
  match effX O0 Y (maxN s.ms nb) (nameOf nb s.ms o.dst) o ev l with
  | some (val,m)=>bif m.all (fun p=>j8 l p.1||!j8 s.ms p.1) then some (val,m,rdM s.ms rs l (lvl o.op ev)) else none
  | none=>none
 else none
theorem B.ja {val0 val:DV} {m0 m:List (Nat×MO)} {rd:List Nat} (h:bodyX Y nb s o=some (val0,m0,rd)) (hz:∀ l,Frz l val0 m0 val m) (hk:m.map (·.1)=m0.map (·.1)):Body P Y nb s o val m rd:=by
 unfold bodyX at h
 simp only at h
 generalize hl:ledM s.ms (o.op.operands.toList.flatMap fun x=>(evU (tmpsOf o.op.operands.toList) s x).refs) (lvl o.op (evU (tmpsOf o.op.operands.toList) s))=l at h
 cases hq:(jm l&&(o.op.operands.toList.flatMap fun x=>(evU (tmpsOf o.op.operands.toList) s x).refs).all (j8 l)) with
 | false=>rw[hq] at h;cases h
 | true=>
  rw[hq] at h
  simp only[cond_true] at h
  split at h
  ·rename_i v mm he
   cases hq2:(mm.all fun p=>j8 l p.1||!j8 s.ms p.1) with
   | false=>rw[hq2] at h;cases h
   | true=>
    rw[hq2] at h
    simp only[cond_true,zh,zz] at h
    obtain⟨e1,e2,hrd⟩:=h
    subst e1;subst e2
    refine .inl ⟨O0,l,_,_,_,_,kl P,hl,hrd,hq,he,hz l,?_⟩
    rw[zr] at hq2 ⊢
    intro p hp
    have:p.1∈mm.map (·.1):=by rw[<-hk];exact zF.2 ⟨p,hp,rfl⟩
    obtain⟨q,hq,e⟩:=zF.1 this
    rw[<-e];exact hq2 q hq
  cases h
theorem B.run {val:DV} {m:List (Nat×MO)} {rd:List Nat} (h:bodyX Y nb s o=some (val,m,rd)):Body P Y nb s o val m rd:=
 B.ja h (fun l=>Frz.refl l _ _) rfl
theorem Frz.arr (l:List (Nat×MO)) (h v sz:Nat) (T:TypeId) (es:List (List PV)):Frz l (.aref h v) [(h,.arr v sz T es)] (.pv (.slice es)) [(h,.farr v es)]:=by
 intro G w G1 w1 r M S
 have M1:=M.out S
 obtain⟨G2,S2⟩:=frz_stepped M1 (h:=h) (o:=.farr v es) (by simp[frzStep,upd,ji])
 have S3:=S.trans M S2
 have e:mrg [(h,MO.farr v es)] [(h,MO.arr v sz T es)]=[(h,MO.farr v es)]:=by simp[mrg,ji]
 rw[e] at S3
 refine⟨G2,{ S3 with hval:=?_,refs:=by simp[DV.refs] }⟩
 have hv:=qx.mono (G:=G1) S2.later.rd _ _ (fun k hk=>S2.keeps k (.arr v sz T es) (by
  simp only[DV.refs,zg] at hk;subst hk;simp[upd,ji])) S.hval
 simp only[qx]
 exact jr (d:=.aref h v) (look:=fun k=>if k=h then some (.farr v es) else none) (fun k m hk=>by
  split at hk
  ·rename_i e;subst e;cases hk;exact S2.hms _ _ ao
  cases hk) (by simp[pvOf]) hv
theorem EfR.on {val:DV} {m:List (Nat×MO)} {rd:List Nat} (hg:gcond ops s o.guard=some true) (h:Body P Y nb s o val m rd):EfR P Y nb ops s o ⟨o.dst,val,m,rd⟩:=
 ⟨true,val,m,rd,hg,fun _=>h,.inl ⟨rfl,rfl⟩⟩
theorem EfR.off (hg:gcond ops s o.guard=some false):EfR P Y nb ops s o ⟨o.dst,.gd false (lit (.bool false)),[],[]⟩:=
 ⟨false,.dead,[],[],hg,fun h=>(by cases h),.inr (.inl ⟨rfl,rfl⟩)⟩
theorem EfR.sym {c:Bool} {val:DV} {rd:List Nat} (hg:gcond ops s o.guard=some c) (h:c=true->Body P Y nb s o val [] rd) (hr:refsIn s o val=true):EfR P Y nb ops s o ⟨o.dst,.gd c val,[],rd⟩:=
 ⟨c,val,[],rd,hg,h,.inr (.inr ⟨rfl,hr,rfl⟩)⟩
end
def byteAt (s:ByteArray) (i:Nat):Int:=((s.data.toList.getD i 0).toNat:Int)
section
variable {P:Program} {Y:Tab} {nb:Nat} {s:St} {ops:Array Oper} {o:Oper} {dst:Option Tmp} {ty u:TypeId} {pos:String} {af:Array Edge} {gd:Option (Nat×Bool)} {t:TypeId} {x y:Operand}
theorem B.sidx {a:ByteArray} {k:IntKind} {n:Int} {i:Nat} (hx:ev1 s x=lit (.string a)) (hy:ev1 s y=lit (.int k n)) (und:Y.underlying t=some .string) (hn:n=(i:Int)) (hlt:i<a.size) :
  Body P Y nb s ⟨dst,.index t x y,ty,pos,af,gd⟩ (lit (.int .u8 (byteAt a i))) [] []:=by
 refine B.pure (lo:=0) (nm:=0) (kl P) ?_ ?_
 ·intro v hv
  have:v=x\/v=y:=by simpa [Op.operands] using hv
  rcases this with rfl|rfl
  ·rw[hx];rfl
  rw[hy];rfl
 show qE (indexQ Y t (evU (tmpsOf [x,y]) s x) (evU (tmpsOf [x,y]) s y))=_
 rw[qW ao,qW ao,hx,hy]
 unfold indexQ lit
 rw[und]
 subst hn
 have h1:decide (0<=(i:Int)/\(i:Int)<(a.size:Int))=true:=zl ⟨aa,aa⟩
 simp only[h1,zU];rfl
theorem B.toI {k:IntKind} {a:Int} {t':TypeId} {d:TypeDesc} (hx:ev1 s x=lit (.int k a)) (hu:Y.underlying t=some d) (hu':Y.underlying t'=some (.int .i64)) (h:R64 a) (hs:s2bV Y t t' (lit (.int k a))=none) :
  Body P Y nb s ⟨dst,.convert t t' x,ty,pos,af,gd⟩ (lit (.int .i64 a)) [] []:=by
 refine B.pure (lo:=0) (nm:=0) (kl P) ?_ ?_
 ·intro z hz
  have:z=x:=by simpa [Op.operands] using hz
  rw[this,hx];rfl
 have e1:evU (tmpsOf [x]) s x=_:=(qW ao).trans hx
 show (match s2bV Y t t' (evU (tmpsOf [x]) s x) with|some ⟨true,v,m⟩=>some (v,m)|some _=>none|none=>qE (convW Y t t' (qw []) (evU (tmpsOf [x]) s x)))=_
 rw[e1,hs]
 show qE (convQ Y t t' (lit (.int k a)))=_
 unfold convQ lit
 rw[hu,hu']
 have:in64 a=true:=zl h
 simp only[wrapB,wrapN,this];rfl
theorem call_ops {f:Operand} {args:Array Operand} {ats:Array TypeId}:(Op.call ⟨.value f,args,ats⟩).operands.toList=f::args.toList:=by
 simp[Op.operands,Call.operands]
theorem tgtX_refs {d:DV} {fid:FuncId} {first caps:List DV} (h:tgtX d=some (fid,first,caps)):d.refs=DV.qP first++DV.qP caps:=by
 have hp:∀ ps:List PV,DV.qP (ps.map .pv)=[]:=by
  intro ps
  induction ps with
  | nil=>rfl
  | cons p ps ih=>simp only[zA,DV.qP,DV.refs,ih,zS]
 unfold tgtX at h
 split at h
 ·cases h;simp only[DV.refs,hp,zS]
 ·cases h;rfl
 cases h
theorem refsL_app (a b:List DV):DV.qP (a++b)=DV.qP a++DV.qP b:=by
 induction a with
 | nil=>rfl
 | cons d a ih=>simp only[zR,DV.qP,ih,z8]
theorem B.call {f:Operand} {args:Array Operand} {ats:Array TypeId} {fid:FuncId} {first caps ds:List DV} {val:DV} (H:qD P fid ds (qw []) val []) (hf:tgtX (ev1 s f)=some (fid,first,caps))
  (hds:first++args.toList.map (ev1 s)++caps=ds) (hr:DV.qP ds=[]):Body P Y nb s ⟨dst,.call ⟨.value f,args,ats⟩,ty,pos,af,gd⟩ val [] []:=by
 have hr2:=hr
 rw[<-hds,refsL_app,refsL_app] at hr2
 simp only[List.append_eq_nil_iff] at hr2
 obtain⟨⟨hr1,hr2⟩,hr3⟩:=hr2
 refine B.pure (lo:=0) (nm:=0) (one_ok H) ?_ ?_
 ·intro z hz
  rw[call_ops] at hz
  rcases zG.1 hz with rfl|hz
  ·rw[tgtX_refs hf,hr1,hr3];rfl
  have:∀ (l:List DV),DV.qP l=[]->∀ d∈l,d.refs=[]:=by
   intro l
   induction l with
   | nil=>intro _ d hd;cases hd
   | cons e l ih=>
    intro h d hd
    simp only[DV.qP,List.append_eq_nil_iff] at h
    rcases zG.1 hd with rfl|hd
    ·exact h.1
    exact ih h.2 d hd
  exact this _ hr2 _ (zF.2 ⟨z,hz,rfl⟩)
 show callE (one fid ds [] val []) 0 ⟨.value f,args,ats⟩ (evU (tmpsOf (Op.call ⟨.value f,args,ats⟩).operands.toList) s) []=_
 rw[call_ops]
 have e1:evU (tmpsOf (f::args.toList)) s f=ev1 s f:=qW ao
 have e2:args.toList.map (evU (tmpsOf (f::args.toList)) s)=args.toList.map (ev1 s):=List.map_congr_left fun z hz=>qW (by simp[hz])
 unfold callE
 simp only[e1,hf,e2,hds,hr,one_eq];rfl
theorem ds1 {x1:Operand} {d1:DV} (h1:ev1 s x1=d1):([]:List DV)++([x1]:List Operand).map (ev1 s)++[]=[d1]:=by simp[h1]
theorem ds2 {x1 x2:Operand} {d1 d2:DV} (h1:ev1 s x1=d1) (h2:ev1 s x2=d2):([]:List DV)++([x1,x2]:List Operand).map (ev1 s)++[]=[d1,d2]:=by simp[h1,h2]
theorem Frz.nil {l:List (Nat×MO)} {h sz:Nat} {T:TypeId} (hl:qw l h=none):Frz l .nils [] (.aref h 0) [(h,.arr 0 sz T [])]:=by
 intro G w G1 w1 r M S
 have hv:=S.hval
 simp only[qx] at hv
 refine⟨G1.turn h ⟨none,0,0,sz,0,0,true⟩,⟨⟨S.later.base,S.later.R0,S.later.R0c,S.later.R0m,S.later.os,S.later.tape,S.later.output,S.later.size,S.later.cold,S.later.drawn⟩,?_,?_,?_,?_,S.fresh,?_,?_,?_,S.newb,S.r0,S.r0m⟩⟩
 ·simp only[qx,Gh.turn,qp]
  exact⟨zC _,fun _=>hv⟩
 ·intro k o hk
  simp only[zg,zz] at hk
  obtain⟨rfl,rfl⟩:=hk
  simp only[qY,Gh.turn,qp]
  exact⟨trivial,trivial,trivial,rfl,zC _,ao,.inl ⟨trivial,trivial⟩⟩
 ·intro k o hk
  have hne:k≠h:=by rintro rfl;rw[hl] at hk;cases hk
  have:=S.keeps k o hk
  unfold Gh.keeps at this ⊢
  simp only[Gh.turn,hne,qq];exact this
 ·intro k hk
  simp only[zA,z6,zg] at hk
  have:=S.old k ao
  simp only[Gh.turn,hk,qq];exact this
 ·intro b k hk
  rcases S.own b k hk with e|e
  ·simp at e
  exact .inr e
 ·intro k hk
  simp only[DV.refs,zg] at hk
  exact .inl (by simp[hk])
 intro k o hk k2 hh
 simp only[zg,zz] at hk
 obtain⟨rfl,rfl⟩:=hk
 simp[MO.refs] at hh
theorem B.adopt (h sz:Nat) (T:TypeId) (hx:ev1 s x=.nils) (hh:j8 s.ms h=false):Body P Y nb s ⟨dst,.assign x,ty,pos,af,gd⟩ (.aref h 0) [(h,.arr 0 sz T [])] []:=by
 refine B.of0 (val0:=.nils) (m0:=[]) (lo:=0) (nm:=0) (kl P) ?_ ?_ (Frz.nil Z) ?_
 ·intro z hz
  have:z=x:=by simpa [Op.operands] using hz
  rw[this,hx];rfl
 ·show mvE (evU (tmpsOf [x]) s x)=_
  rw[qW ao,hx];rfl
 simp[hh]
theorem B.append {α:Type} {enc:α->List PV} {l r:List α} {h v sz:Nat} {T:TypeId} {i:TypeInfo} {at1:TypeId} {d:Tmp} (hx:ev1 s x=.aref h v) (hm:qw s.ms h=some (.arr v sz T (l.map enc))) (hy:ev1 s y=.pv (.slice (r.map enc)))
  (hu:Y.underlying at1=some (.slice T)) (hi:Y.info? T=some i) (hok:(Nat.blt 0 i.size&&i.zero.isSome&&Nat.beq (i.zero.getD default).cells.size i.size&&Nat.beq sz i.size)=true) (hsz:∀ a,(enc a).length=sz) {bs:Nat} (hbs:i.bytes=bs)
  (hlen:(l.length+r.length)*bs<=140737488355328/\l.length+r.length<=9223372036854775807) :
  Body P Y nb s ⟨some d,.call ⟨.builtin .append,⟨[x,y]⟩,⟨[at1,at1]⟩⟩,ty,pos,af,gd⟩ (.aref h (v+1)) [(h,.arr (v+1) sz T ((l++r).map enc))] [h]:=by
 subst hbs
 simp only[zj,Nat.beq_eq,Nat.blt_eq] at hok
 obtain⟨⟨⟨k1,k2⟩,k3⟩,k4⟩:=hok
 subst k4
 have e1:evU (tmpsOf [x,y]) s x=.aref h v:=(qW ao).trans hx
 have e2:evU (tmpsOf [x,y]) s y=.pv (.slice (r.map enc)):=(qW ao).trans hy
 have hrs:([x,y].flatMap fun x'=>(evU (tmpsOf [x,y]) s x').refs)=[h]:=by simp[e1,e2,DV.refs]
 have hsel:sel s.ms (reachX s.ms 10000 [h] [])=[(h,.arr v i.size T (l.map enc))]:=by
  have:reachX s.ms 10000 [h] []=[h]:=by
   show (bif ([]:List Nat).any (Nat.beq h) then _ else _)=_
   simp only[List.any_nil,cond_false,hm,MO.refs,zV];rfl
  rw[this];simp only[sel,hm]
 refine .inl ⟨O0,[(h,.arr v i.size T (l.map enc))],_,_,0,0,kl P,?_,?_,?_,?_,Frz.refl _ _ _,?_⟩
 ·show ledM s.ms ([x,y].flatMap fun x'=>(evU (tmpsOf [x,y]) s x').refs) 2=_
  rw[hrs];exact hsel
 ·show rdM s.ms ([x,y].flatMap fun x'=>(evU (tmpsOf [x,y]) s x').refs) [(h,.arr v i.size T (l.map enc))] 2=_
  rw[hrs];rfl
 ·show (jm [(h,.arr v i.size T (l.map enc))]&&([x,y].flatMap fun x'=>(evU (tmpsOf [x,y]) s x').refs).all (j8 [(h,.arr v i.size T (l.map enc))]))=true
  rw[hrs]
  simp[jm,MO.refs,j8,qG]
 ·have ha:appendV Y 0 at1 at1 (.aref h v) (.pv (.slice (r.map enc))) (qw [(h,.arr v i.size T (l.map enc))]) (qw [(h,.arr v i.size T (l.map enc))])=some ⟨true,.aref h (v+1),[(h,.arr (v+1) i.size T ((l++r).map enc))]⟩:=by
   unfold appendV
   have hl:qw [(h,MO.arr v i.size T (l.map enc))] h=some (.arr v i.size T (l.map enc)):=by rw[qG,if_pos rfl]
   have hs:srcOf Y at1 at1 i (qw [(h,.arr v i.size T (l.map enc))]) (.aref h v) (.pv (.slice (r.map enc)))=some (r.map enc):=by
    unfold srcOf;simp[conts]
   have hq:(decide (0<i.size)&&i.zero.isSome&&decide ((i.zero.getD default).cells.size=i.size))=true:=by
    simp only[zj,zf];exact⟨⟨k1,k2⟩,k3⟩
   have hal:jO i.size (r.map enc)=true:=by
    unfold jO
    rw[zr]
    intro a ha
    obtain⟨b,_,rfl⟩:=zF.1 ha
    simpa using hsz b
   have hle:decide (((l.map enc).length+(r.map enc).length)*i.bytes<=140737488355328/\(l.map enc).length+(r.map enc).length<=9223372036854775807)=true:=by
    simp only[zJ];exact zl hlen
   simp only[hu,hi,hs,hq,hl,qp,and_self,hal,hle,Bool.and_self,qc]
  have hv:effV Y 0 (some d) (.call ⟨.builtin .append,⟨[x,y]⟩,⟨[at1,at1]⟩⟩) (evU (tmpsOf [x,y]) s) (qw [(h,.arr v i.size T (l.map enc))])=some ⟨true,.aref h (v+1),[(h,.arr (v+1) i.size T ((l++r).map enc))]⟩:=by
   show (match truncU _ (evU (tmpsOf [x,y]) s x) with|some (d',h',m)=>_|none=>appendV Y 0 at1 at1 (evU (tmpsOf [x,y]) s x) (evU (tmpsOf [x,y]) s y) _ _)=_
   rw[e1,e2]
   exact ha
  show (match effV Y 0 (some d) (.call ⟨.builtin .append,⟨[x,y]⟩,⟨[at1,at1]⟩⟩) (evU (tmpsOf [x,y]) s) (qw [(h,.arr v i.size T (l.map enc))]) with|some ⟨true,v,m⟩=>some (v,m)|_=>none)=_
  rw[hv]
 simp[j8,qG]
end
section
variable {P:Program} {n nb:Nat} {Q:Exit->St->Prop} {K:List Fr} {c x y:Code} {s:St}
theorem TK.condP [Fc] {o:Operand} {p:Prop} [Decidable p] (hc:evS s o=lit (.bool (decide p))) (hx:p->TK P n nb Q x K s) (hy:¬p->TK P n nb Q y K s):TK P n nb Q (.cond o x y) K s:=
 TK.cond hc (fun h=>hx (of_decide_eq_true h)) (fun h=>hy (of_decide_eq_false h))
end
def Post (Y:Tab) (F:FnI) (lo:Nat) (val:DV) (e:Exit) (s:St):Prop:=(e=.normal\/e=.ret)/\∃ v ms,closeX Y F lo [] s=some (v,ms)/\v=val/\ms=[]
theorem leaf {Y:Tab} {F:FnI} {lo:Nat} {val:DV} {s:St} {val0:DV} (h:closeX Y F lo [] s=some (val0,[])) (hv:val0=val):Post Y F lo val .ret s:=⟨.inr Z,val0,[],h,hv,rfl⟩
theorem CallR.ok {P:Program} {f:FuncId} {ds:List DV} {look:Nat->Option MO} {val:DV} {ms:List (Nat×MO)} (h:CallR P f ds look fun v m=>v=val/\m=ms):qD P f ds look val ms:=
 ⟨h.refs,fun G w vs M hv=>(h.call G w vs M hv).mono fun r w' ⟨v,m,G',⟨e1,e2⟩,S⟩=>⟨G',by rw[<-e1,<-e2];exact S⟩⟩
theorem callOk_of {P:Program} {Y:Tab} [qM P Y] {F:FnI} {f:FuncId} {fn:Func} {c:Code} (hf:P.funcs[f]? =some fn) (hb:fn.body=some c) (hn:fn.ntmps=F.n) (hr:fn.results=F.res) (he:∀ args w,(callFunc f args).run P w=.ok (.enter f args) w)
  {ds:List DV} {val:DV} (hl:ds.length<=F.n) (hrf:DV.qP ds=[])
  (h:TK P F.n 1 (Post Y F 1 val) c [] ⟨zipT 0 ds,[]⟩):qD P f ds (qw []) val []:=by
 refine CallR.ok (CallR.of (Y:=Y) (F:=F) (lo:=1) hf hb hn hr he hl (fun h hh=>by rw[hrf] at hh;cases hh) (fun h o e=>by cases e) (T.mono h ?_))
 rintro e s' ⟨h1,v,ms,h2,h3,h4⟩
 exact⟨h1,v,ms,h2,h3,h4⟩
theorem wk_frz {nb:Nat} {s:St} {t h:Nat} {d:DV} {o:MO} {p:PV} (ht:jx s.tm t=d) (hd:d≠.dead) (hf:frzStep (qw s.ms) h=some o) (hp:pvOf (qw [(h,o)]) d=some p):Wk nb s ⟨(t,.pv p)::s.tm,(h,o)::s.ms⟩:=by
 intro G a w I
 obtain⟨G1,S1⟩:=frz_stepped I.mem hf
 obtain⟨I1,Sn1⟩:=I.eff (K:=nb) S1 none ao
 have I2:Inv G1 (St.vw ⟨s.tm,(h,o)::s.ms⟩) a w:=I1
 refine⟨G1,?_,Sn1⟩
 have hts:t<a.tmps.size:=by
  rcases Nat.lt_or_ge t a.tmps.size with h|h
  ·exact h
  exact absurd (ht.symm.trans (I.size t h)) hd
 have hv:qx G1 (G1.rd w) d (a.tmps.getD t undef):=by
  have:=I2.ts t
  have e:(St.vw ⟨s.tm,(h,o)::s.ms⟩).get t=d:=ht
  rw[e] at this;exact this
 have hpv:qN (G1.rd w) p (a.tmps.getD t undef):=by
  refine jr (look:=qw [(h,o)]) (fun k m hk=>?_) hp hv
  rw[qG] at hk
  split at hk
  ·rename_i e;subst e;cases hk;exact S1.hms _ _ ao
  cases hk
 refine⟨fun u=>?_,fun u hu=>?_,I2.ms,I2.fresh,I2.own,fun u k hk=>?_,I2.refsM,I2.r0,I2.r0m,I2.baseLe,I2.laid⟩
 ·show qx _ _ (jx ((t,.pv p)::s.tm) u) _
  rw[ju]
  split
  ·rename_i e;subst e;simp only[qx];exact hpv
  exact I2.ts u
 ·show jx ((t,.pv p)::s.tm) u=.dead
  rw[ju,if_neg aa]
  exact I2.size u hu
 have hk':k∈(jx ((t,.pv p)::s.tm) u).refs:=hk
 rw[ju] at hk'
 split at hk'
 ·simp[DV.refs] at hk'
 exact I2.refsT u k hk'
section
variable {P:Program} {Y:Tab} {n nb:Nat} {Q:Exit->St->Prop} {K:List Fr} {c:Code} {s:St}
theorem TK.frz [Fc] {t h v sz:Nat} {T0:TypeId} {es:List (List PV)} (ht:jx s.tm t=.aref h v) (hm:qw s.ms h=some (.arr v sz T0 es)) (k:TK P n nb Q c K ⟨(t,.pv (.slice es))::s.tm,(h,.farr v es)::s.ms⟩):TK P n nb Q c K s:=
 T.weak (wk_frz ht ao aW (by simp[pvOf,qG])) k
end
section
variable {P:Program} {Y:Tab} {nb:Nat} {s:St} {ops:Array Oper} {o:Oper} {dst:Option Tmp} {ty u:TypeId} {pos:String} {af:Array Edge} {gd:Option (Nat×Bool)} {t:TypeId} {x y:Operand}
theorem Frz.kg (l:List (Nat×MO)):Frz l .nils [] (.pv (.slice [])) []:=by
 intro G w G1 w1 r M S
 have hv:=S.hval
 simp only[qx] at hv
 refine⟨G1,{ S with hval:=?_,refs:=by simp[DV.refs] }⟩
 simp only[qx,qN]
 exact⟨none,0,by rw[hv];rfl,zC _,.inl trivial⟩
theorem B.kg {α:Type} {enc:α->List PV} (hx:ev1 s x=.nils):Body P Y nb s ⟨dst,.assign x,ty,pos,af,gd⟩ (.pv (.slice (List.map enc []))) [] []:=by
 refine B.of0 (val0:=.nils) (m0:=[]) (lo:=0) (nm:=0) (kl P) ?_ ?_ (Frz.kg _) rfl
 ·intro z hz
  have:z=x:=by simpa [Op.operands] using hz
  rw[this,hx];rfl
 show mvE (evU (tmpsOf [x]) s x)=_
 rw[qW ao,hx];rfl
theorem B.quoN {a b:Int} (hx:ev1 s x=lit (.int .i64 a)) (hy:ev1 s y=lit (.int .i64 b)) (ha:0<=a) (hb:0<b) (h:R64 (a / b)):Body P Y nb s ⟨dst,.binOp .quo t x y u,ty,pos,af,gd⟩ (lit (.int .i64 (a / b))) [] []:=by
 have e:a.tdiv b=a / b:=Int.tdiv_eq_ediv_of_nonneg ha
 have:=B.quo (P:=P) (Y:=Y) (nb:=nb) (dst:=dst) (ty:=ty) (u:=u) (pos:=pos) (af:=af) (gd:=gd) (t:=t) hx hy ⟨aa,by rw[e];exact h⟩
 rw[e] at this;exact this
end
end Go.Lens
end
