/- A part of the proof that NightLogsCardSaid holds, without conditions. -/
import Derived.Test.YtomghboflcafbaaGreatDoorL2
import Derived.Test.YtomghboflcafbaaGreatDoorL1
import Derived.Test.YtomghboflcafbaaGreatDoorS10
import Derived.Test.YtomghboflcafbaaGreatDoorS4
import Derived.Stop.LaidErr
import Derived.Stop.ErrReads
import Derived.Test.YtomghboflcafbaaGreatDoorRows
import Derived.MakeChecks
import Derived.Lib.LaidTab
import Derived.LaidLaws
import Derived.Stop.Joined
import Derived.RowKit
set_option linter.unusedVariables false
set_option linter.unusedSimpArgs false
section
namespace Go.Lens.Tm
open Go.Lens.Tb Go.Proofs
set_option linter.unusedSectionVars false
variable [Lz]
def dgb (b:UInt8):Bool:=dgB b.toNat
def trL (s:List UInt8):List UInt8:=s.dropWhile dgb
def trR (s:List UInt8):List UInt8:=(s.reverse.dropWhile dgb).reverse
theorem trL_no {q:List UInt8} (h:0<q.length) (hd:dgB (Int.toNat (byteAt (bsO q) 0))=false):trL q=q:=by
 cases q with
 | nil=>simp at h
 | cons b l=>
  have:dgb b=false:=hd
  unfold trL;rw[List.dropWhile_cons,this];rfl
theorem trL_yes {q:List UInt8} (h:0<q.length) (hd:dgB (Int.toNat (byteAt (bsO q) 0))=true):trL (q.drop 1)=trL q:=by
 cases q with
 | nil=>simp at h
 | cons b l=>
  have:dgb b=true:=hd
  unfold trL;rw[List.dropWhile_cons,this];rfl
theorem trL_nil {q:List UInt8} (h:¬0<q.length):trL q=q:=by
 have:q=[]:=List.eq_nil_of_length_eq_zero (by omega)
 subst this;rfl
theorem last_split {q:List UInt8} (h:0<q.length):q=q.take (q.length-1)++[q.getD (q.length-1) 0]:=by
 have:=take_succ_at q (q.length-1) 0 (by omega)
 rw[show q.length-1+1=q.length by omega,List.take_length] at this
 exact this
theorem trR_no {q:List UInt8} (h:0<q.length) (hd:dgB (Int.toNat (byteAt (bsO q) (q.length-1)))=false):trR q=q:=by
 have h2:dgb (q.getD (q.length-1) 0)=false:=hd
 have e:=congrArg List.reverse (last_split h)
 rw[List.reverse_append,List.reverse_singleton,List.singleton_append] at e
 unfold trR
 rw[e,List.dropWhile_cons,h2]
 show (_::_).reverse=q
 rw[←e,List.reverse_reverse]
theorem trR_yes {q:List UInt8} (h:0<q.length) (hd:dgB (Int.toNat (byteAt (bsO q) (q.length-1)))=true):trR (q.take (q.length-1))=trR q:=by
 have h2:dgb (q.getD (q.length-1) 0)=true:=hd
 have e:=congrArg List.reverse (last_split h)
 rw[List.reverse_append,List.reverse_singleton,List.singleton_append] at e
 unfold trR
 rw[e,List.dropWhile_cons,h2];rfl
theorem trR_nil {q:List UInt8} (h:¬0<q.length):trR q=q:=by
 have:q=[]:=List.eq_nil_of_length_eq_zero (by omega)
 subst this;rfl
theorem dw_nil (p:UInt8→Bool):∀ l:List UInt8,l.dropWhile p=[]↔l.all p=true
 | []=>by simp
 | b::l=>by
  rw[List.dropWhile_cons,List.all_cons]
  cases h:p b
  ·simp
  ·simpa using dw_nil p l
theorem trim_nil (s:List UInt8):trL (trR s)=[]↔s.all dgb=true:=by
 unfold trL trR
 rw[dw_nil,List.all_reverse]
 constructor
 ·intro h
  have h2:s.reverse.dropWhile dgb=[]:=by
   cases hq:s.reverse.dropWhile dgb with
   | nil=>rfl
   | cons b l=>
    have h3:=List.head_dropWhile_not dgb (show s.reverse.dropWhile dgb≠[] by rw[hq];simp)
    rw[hq,List.all_cons] at h
    simp only[hq,List.head_cons] at h3
    rw[h3] at h;cases h
  have h4:=(dw_nil dgb _).1 h2
  rwa [List.all_reverse] at h4
 ·intro h
  have h4:s.reverse.all dgb=true:=by rwa [List.all_reverse]
  rw[(dw_nil dgb _).2 h4];rfl
theorem trR_len {s:List UInt8} {n:Nat} (h:s.length≤n):(trR s).length≤n:=by
 unfold trR
 have:=(List.dropWhile_sublist (l:=s.reverse) dgb).length_le
 rw[List.length_reverse] at this ⊢
 omega
theorem tr_nil {s:List UInt8} {b:Bool} (hb:b=false) (h:(bif (decide (s=[])) then true else b)=true):s=[]:=by
 by_cases e:s=[]
 ·exact e
 ·rw[decide_eq_false e,hb] at h;cases h
end Go.Lens.Tm
end
section
namespace Go.Lens.Tm
open Go.Lens.Tb Go.Proofs
variable [Lz]
set_option linter.unusedSectionVars false
set_option maxRecDepth 100000
attribute [local irreducible] TK PK T RG EfR Body CG
theorem w263 (hp:PowLaid) (hm:OrcOk Tryz.prog (mergeO 121)) (s:List UInt8) (hl:s.length≤1000000):CallOk Tryz.prog 263 [vS (bsO s),.bref 6 0] (lookM [(6,.box 354 dgD)]) (vS (bsO (trL s))) [(6,.box 354 dgD)]:=by
 refine cL 1001 ([(6,.box 354 dgD)]) qf263 rfl (nB rfl) rfl rfl (kc (l1 (fun (q:List UInt8)=>[(0,vS (bsO q)),(1,.bref 6 0)]) (fun _=>[(6,.box 354 dgD)]) (fun q=>trL q=trL s∧q.length≤s.length) (fun q=>q.length) s rfl ?_ (sb rfl rfl rfl) ?_))
 · exact⟨rfl,Nat.le_refl _⟩
 intro q hI0
 refine E rfl (B.lenB (a:=q) rfl un9) (Cp rfl rfl (fun h1=>?_) (fun h1=>?_))
 ·refine E rfl (B.sidx (i:=0) rfl rfl un9 rfl (show 0<q.length from (by omega))) (E rfl (B.callS (l:=[(6,.box 354 dgD)]) (w304i hp hm (byteAt (bsO q) 0) (byte_rng _ _).1 (byte_rng _ _).2) rfl rfl ⟨rfl,trivial⟩ rfl rfl) (Cb rfl rfl (fun h2=>?_) (fun h2=>?_)))
  ·refine Rt rfl ?_
   have hq:q=trL s:=by first|exact (trL_nil (by omega)).symm.trans hI0.1|exact (trL_no (by omega) (by simpa using h2)).symm.trans hI0.1
   rw[←hq]
   exact leafL (val0:=vS (bsO q)) (out0:=[(6,.box 354 dgD)]) (.inr rfl) (by kernel_rfl) rfl rfl
  ·refine E rfl (B.slLB (a:=q) (i:=1) rfl rfl un9 rfl (by omega)) (pk rfl (L1 (List.drop 1 q) ?_ ?_ (sb rfl rfl rfl)))
   · (exact⟨(trL_yes (by omega) (by simpa using h2)).trans hI0.1,by simp only[List.length_drop,List.length_take];omega⟩)
   · (simp only[List.length_drop,List.length_take];omega)
 ·refine Rt rfl ?_
  have hq:q=trL s:=by first|exact (trL_nil (by omega)).symm.trans hI0.1|exact (trL_no (by omega) (by simpa using h2)).symm.trans hI0.1
  rw[←hq]
  exact leafL (val0:=vS (bsO q)) (out0:=[(6,.box 354 dgD)]) (.inr rfl) (by kernel_rfl) rfl rfl
theorem w264 (hp:PowLaid) (hm:OrcOk Tryz.prog (mergeO 121)) (s:List UInt8) (hl:s.length≤1000000):CallOk Tryz.prog 264 [vS (bsO s),.bref 6 0] (lookM [(6,.box 354 dgD)]) (vS (bsO (trR s))) [(6,.box 354 dgD)]:=by
 refine cL 1001 ([(6,.box 354 dgD)]) qf264 rfl (nB rfl) rfl rfl (kc (l1 (fun (q:List UInt8)=>[(0,vS (bsO q)),(1,.bref 6 0)]) (fun _=>[(6,.box 354 dgD)]) (fun q=>trR q=trR s∧q.length≤s.length) (fun q=>q.length) s rfl ?_ (sb rfl rfl rfl) ?_))
 · exact⟨rfl,Nat.le_refl _⟩
 intro q hI0
 refine E rfl (B.lenB (a:=q) rfl un9) (Cp rfl rfl (fun h1=>?_) (fun h1=>?_))
 ·refine E rfl (B.lenB (a:=q) rfl un9) (E rfl (B.sub rfl rfl (by unfold R64;omega)) (E rfl (B.sidx (i:=(q.length-1)) rfl rfl un9 (by omega) (show (q.length-1)<q.length from (by omega))) (E rfl (B.callS (l:=[(6,.box 354 dgD)]) (w304i hp hm (byteAt (bsO q) (q.length-1)) (byte_rng _ _).1 (byte_rng _ _).2) rfl rfl ⟨rfl,trivial⟩ rfl rfl) (Cb rfl rfl (fun h2=>?_) (fun h2=>?_)))))
  ·refine Rt rfl ?_
   have hq:q=trR s:=by first|exact (trR_nil (by omega)).symm.trans hI0.1|exact (trR_no (by omega) (by simpa using h2)).symm.trans hI0.1
   rw[←hq]
   exact leafL (val0:=vS (bsO q)) (out0:=[(6,.box 354 dgD)]) (.inr rfl) (by kernel_rfl) rfl rfl
  ·refine E rfl (B.lenB (a:=q) rfl un9) (E rfl (B.sub rfl rfl (by unfold R64;omega)) (E rfl (B.slHB (a:=q) (j:=(q.length-1)) rfl rfl un9 (by omega) (by omega)) (pk rfl (L1 (List.take (q.length-1) q) ?_ ?_ (sb rfl rfl rfl)))))
   · (exact⟨(trR_yes (by omega) (by simpa using h2)).trans hI0.1,by simp only[List.length_drop,List.length_take];omega⟩)
   · (simp only[List.length_drop,List.length_take];omega)
 ·refine Rt rfl ?_
  have hq:q=trR s:=by first|exact (trR_nil (by omega)).symm.trans hI0.1|exact (trR_no (by omega) (by simpa using h2)).symm.trans hI0.1
  rw[←hq]
  exact leafL (val0:=vS (bsO q)) (out0:=[(6,.box 354 dgD)]) (.inr rfl) (by kernel_rfl) rfl rfl
end Go.Lens.Tm
end
section
namespace Go.Lens.Tm
open Go.Lens.Tb Go.Proofs
variable [Lz]
set_option linter.unusedSectionVars false
set_option maxRecDepth 100000
attribute [local irreducible] TK PK T RG EfR Body CG
set_option maxHeartbeats 4000000 in
theorem w192 (hp:PowLaid) (hm:OrcOk Tryz.prog (mergeO 121)) (s:List UInt8) (hl:s.length≤1000000):CallOk Tryz.prog 192 [vS (bsO s),vS (bsO [48,49,50,51,52,53,54,55,56,57])] (lookM []) (vS (bsO (trL (trR s)))) []:=by
 refine cG qf192 rfl (nB rfl) rfl (E rfl (B.seqB (a:=s) (b:=[]) rfl rfl) (Eg rfl rfl (fun hc=>B.move rfl) rfl (Eg rfl rfl (fun hc=>B.seqB (a:=[48,49,50,51,52,53,54,55,56,57]) (b:=[]) (ev1_gd rfl hc) rfl) rfl (E rfl (B.pick rfl rfl rfl rfl (gdB rfl) (pick_or _)) (Cb rfl rfl (fun h1=>?_) (fun h1=>?_))))))
 ·exact Rt rfl (leaf (val0:=vS (bsO s)) (by kernel_rfl) (ls (by (have e:=tr_nil (by decide) h1;subst e;rfl))))
 ·refine E rfl (B.lenB (a:=[48,49,50,51,52,53,54,55,56,57]) rfl un9) (Eg rfl rfl (fun hc=>B.move rfl) rfl (Eg rfl rfl (fun hc=>B.sidx (i:=0) (ev1_gd rfl hc) rfl un9 rfl (show 0<List.length [48,49,50,51,52,53,54,55,56,57] from (by first|omega|(simp only[List.length_cons,List.length_nil];omega)|simp))) rfl (Eg rfl rfl (fun hc=>B.lss (ev1_gd rfl hc) rfl) rfl (E rfl (B.pick rfl rfl rfl (gdB rfl) rfl (pick_and _)) (Cb rfl rfl (fun h2=>?_) (fun h2=>?_))))))
  ·exact absurd h2 (by simp)
  ·exact C rfl (w262 hp hm) rfl rfl rfl (CT rfl rfl (E rfl (B.callS (l:=[(6,.box 354 dgD)]) (w264 hp hm s (by omega)) rfl rfl ⟨rfl,trivial⟩ rfl rfl) (E rfl (B.callS (l:=[(6,.box 354 dgD)]) (w263 hp hm (trR s) (trR_len hl)) rfl rfl ⟨rfl,trivial⟩ rfl rfl) (Rt rfl (leaf rfl rfl)))))
end Go.Lens.Tm
end
section
namespace Go.Lens.Tm
open Go.Lens.Tb Go.Proofs
set_option linter.unusedSectionVars false
variable [Lz]
theorem dgb_I (b:UInt8):dgb b=digI ((b.toNat:Nat):Int):=by
 unfold dgb dgB digI
 rw[Bool.eq_iff_iff]
 simp
 omega
theorem dig_trim {x:List UInt8} (h:x.length=7):decide (trL (trR x)≠[])=!digB x:=by
 unfold digB
 rw[decide_eq_true (show (x.length:Int)=7 by omega),Bool.and_true]
 have e:x.all (fun b=>digI ((b.toNat:Nat):Int))=x.all dgb:=congrArg (fun f=>List.all x f) (funext fun b=>(dgb_I b).symm)
 rw[e]
 by_cases hq:trL (trR x)=[]
 ·rw[decide_eq_false (by simpa using hq),(trim_nil x).1 hq];rfl
 ·rw[decide_eq_true hq]
  cases hx:x.all dgb
  ·rfl
  ·exact absurd ((trim_nil x).2 hx) hq
theorem ln_c (s:List UInt8):(bif (bif (decide ((((List.length s:Nat):Int)-8)<0)) then true else (decide ((byteAt (bsO s) (Int.toNat (((List.length s:Nat):Int)-8)))≠35))) then true else (decide (trL (trR (List.drop (Int.toNat ((((List.length s:Nat):Int)-8)+1)) s))≠[])))=(bif (bif (decide ((((List.length s:Nat):Int)-8)<0)) then true else (decide ((byteAt (bsO s) (Int.toNat (((List.length s:Nat):Int)-8)))≠35))) then true else (!(digB (List.drop (Int.toNat ((((List.length s:Nat):Int)-8)+1)) s)))):=by
 by_cases h0:(((List.length s:Nat):Int)-8)<0
 ·rw[decide_eq_true h0];rfl
 ·rw[dig_trim (by rw[List.length_drop];omega)]
def lnP (s:List UInt8) (k:Int):Ev×Int:=if sgR s≠0 then (zV,sgR s) else (evE (txR s),firstF [whenF (!evP (txR s)) 25,whenF (decide ((evE (txR s)).1≠k)) 11])
theorem sg_no {s:List UInt8} (h:(bif (bif (decide ((((List.length s:Nat):Int)-8)<0)) then true else (decide ((byteAt (bsO s) (Int.toNat (((List.length s:Nat):Int)-8)))≠35))) then true else (!(digB (List.drop (Int.toNat ((((List.length s:Nat):Int)-8)+1)) s))))=true):sgR s=25:=by
 unfold sgR
 by_cases h0:s.length<8
 ·rw[if_pos h0]
 rw[if_neg h0]
 rw[decide_eq_false (by omega),show Int.toNat (((List.length s:Nat):Int)-8)=s.length-8 by omega,show Int.toNat ((((List.length s:Nat):Int)-8)+1)=s.length-8+1 by omega] at h
 by_cases h1:byteAt (bsO s) (s.length-8)≠35
 ·rw[if_pos h1]
 rw[if_neg h1,decide_eq_false h1] at*
 rw[if_pos (by simpa using h)]
section
variable {s t:List UInt8} {m:Nat} {k:Int}
theorem ln_25 (h:sgR s=25):lnP s k=(zV,25):=by unfold lnP;rw[h];rfl
variable (hm:m=s.length-8) (ht:t=List.take m s) (hsg:sgR s=if s.drop (s.length-8+1)≠sumS (txR s) then 27 else 0)
include hm ht hsg
theorem ln_27 (h2:sumS t≠List.drop (m+1) s):lnP s k=(zV,27):=by
 subst ht;subst hm
 unfold lnP;rw[hsg,if_pos (Ne.symm h2)];rfl
theorem ln_go (h2:¬sumS t≠List.drop (m+1) s):lnP s k=(evE t,firstF [whenF (!evP t) 25,whenF (decide ((evE t).1≠k)) 11]):=by
 subst ht;subst hm
 unfold lnP;rw[hsg,if_neg (fun h=>h2 (Ne.symm h))];rfl
end
end Go.Lens.Tm
end
section
namespace Go.Lens.Tm
open Go.Lens.Tb Go.Proofs
variable [Lz]
set_option linter.unusedSectionVars false
set_option maxRecDepth 100000
attribute [local irreducible] TK PK T RG EfR Body CG
set_option maxHeartbeats 4000000 in
theorem w142 (hp:PowLaid) (he:ErrLaid) (hm:OrcOk Tryz.prog (mergeO 121)) (hj:JoinOk) (hj2:Join2Ok) (hjw:JoinW) (s:List UInt8) (k:Int) (hl:s.length≤4000):CallOk Tryz.prog 142 [vS (bsO s),vI k] (lookM []) (.tup [.pv (.agg [pI (lnP s k).1.1,pS (bsO (lnP s k).1.2.1),pL eN (lnP s k).1.2.2.1,pL eI (lnP s k).1.2.2.2.1,pS (bsO (lnP s k).1.2.2.2.2)]),vI (lnP s k).2]) []:=by
 refine cG qf142 rfl (nB rfl) rfl (E rfl (B.runZ rfl (fun l=>Frz.boxN l rfl) rfl) (E rfl (B.lenB (a:=s) rfl un9) (E rfl (B.sub rfl rfl (by unfold R64;omega)) (E rfl (B.sub rfl rfl (by unfold R64;omega)) ?_))))
 refine tk 2 rfl ?_
 refine tn ⟨[(0,vS (bsO s)),(1,vI k),(4,.bref 5 0),(6,vI (((s.length:Int)-7)-1))],[(5,.box 119 [vI 0,vS (bsO []),vL eN [],vL eI [],vS (bsO [])])]⟩ rfl rfl rfl ?_
 rw[show (((s.length:Int)-7)-1)=(s.length:Int)-8 by omega]
 refine kc (Eg rfl rfl (fun hc=>B.move rfl) rfl (Eg rfl rfl (fun hc=>B.move rfl) rfl (Eg rfl rfl (fun hc=>B.sidx (i:=(Int.toNat ((s.length:Int)-8))) (ev1_gd rfl hc) (ev1_gd rfl hc) un9 (Int.toNat_of_nonneg (by first|omega|(have hc2:=hc;simp at hc2;omega))).symm (show (Int.toNat ((s.length:Int)-8))<s.length from (by first|omega|(have hc2:=hc;simp at hc2;omega)))) rfl (Eg rfl rfl (fun hc=>B.neq (ev1_gd rfl hc) rfl) rfl (E rfl (B.pick rfl rfl rfl rfl (gdB rfl) (pick_or _)) (Eg rfl rfl (fun hc=>B.move rfl) rfl (Eg rfl rfl (fun hc=>B.move rfl) rfl (Eg rfl rfl (fun hc=>B.add (ev1_gd rfl hc) rfl (by unfold R64;omega)) rfl (Eg rfl rfl (fun hc=>B.slLB (a:=s) (i:=(Int.toNat (((s.length:Int)-8)+1))) (ev1_gd rfl hc) (ev1_gd rfl hc) un9 (Int.toNat_of_nonneg (by first|omega|(have hc2:=hc;simp at hc2;omega))).symm (by first|omega|(have hc2:=hc;simp at hc2;omega))) rfl (Eg rfl rfl (fun hc=>B.call (w192 hp hm (List.drop (Int.toNat (((s.length:Int)-8)+1)) s) (by simp only[List.length_drop];omega)) rfl (ds2 (ev1_gd rfl hc) rfl) rfl) rfl (Eg rfl rfl (fun hc=>B.sneB (a:=(trL (trR (List.drop (Int.toNat (((s.length:Int)-8)+1)) s)))) (b:=[]) (ev1_gd rfl hc) rfl) rfl (E rfl (B.pick rfl rfl rfl rfl (gdB rfl) (pick_or _)) (Cb rfl rfl (fun h1=>?_) (fun h1=>?_))))))))))))))
 ·have hq:=ln_25 (k:=k) (sg_no ((ln_c s).symm.trans h1))
  exact E rfl (B.runZ (val:=.pv (.agg [pI 0,pS (bsO []),pL eN [],pL eI [],pS (bsO [])])) rfl (fun l=>Frz.aggN l rfl) rfl) (Rt rfl (leaf (val0:=.tup [.pv (.agg [pI 0,pS (bsO []),pL eN [],pL eI [],pS (bsO [])]),vI 25]) (by kernel_rfl) (tup2 (lag (lcons (pli (by rw[hq])) (lcons (pls (by rw[hq])) (lcons (plsl (by rw[hq])) (lcons (plsl (by rw[hq])) (lcons (pls (by rw[hq])) rfl)))))) (li (by rw[hq])))))
 ·refine tk 4 rfl ?_
  refine tn ⟨[(0,vS (bsO s)),(1,vI k),(4,.bref 5 0),(6,vI ((s.length:Int)-8))],[(5,.box 119 [vI 0,vS (bsO []),vL eN [],vL eI [],vS (bsO [])])]⟩ rfl rfl rfl ?_
  obtain⟨h8,hsg⟩:=sg_ok ((ln_c s).symm.trans h1)
  obtain⟨m,hm0⟩:∃ m,m=s.length-8:=⟨_,rfl⟩
  obtain⟨t,ht⟩:∃ t,t=List.take m s:=⟨_,rfl⟩
  have htl:t.length≤4000:=by rw[ht,List.length_take];omega
  rw[show ((s.length:Int)-8)=(m:Int) by omega]
  refine kc (E rfl (B.slHB (a:=s) (j:=m) rfl rfl un9 rfl (by first|omega|(have hc2:=hc;simp at hc2;omega))) (C rfl (w191 hp hm (List.take m s) (by rw[←ht];omega)) rfl rfl rfl (E rfl (B.add rfl rfl (by unfold R64;omega)) (E rfl (B.slLB (a:=s) (i:=(m+1)) rfl rfl un9 (by omega) (by first|omega|(have hc2:=hc;simp at hc2;omega))) (E rfl (B.sneB (a:=(sumS (List.take m s))) (b:=(List.drop (m+1) s)) rfl rfl) (Dr rfl (by kernel_rfl) (Cp rfl rfl (fun h2=>?_) (fun h2=>?_))))))))
  ·have hq:=ln_27 (k:=k) hm0 rfl hsg h2
   exact E rfl (B.runZ (val:=.pv (.agg [pI 0,pS (bsO []),pL eN [],pL eI [],pS (bsO [])])) rfl (fun l=>Frz.aggN l rfl) rfl) (Rt rfl (leaf (val0:=.tup [.pv (.agg [pI 0,pS (bsO []),pL eN [],pL eI [],pS (bsO [])]),vI 27]) (by kernel_rfl) (tup2 (lag (lcons (pli (by rw[hq])) (lcons (pls (by rw[hq])) (lcons (plsl (by rw[hq])) (lcons (plsl (by rw[hq])) (lcons (pls (by rw[hq])) rfl)))))) (li (by rw[hq])))))
  ·have hq:=ln_go (k:=k) hm0 rfl hsg h2
   exact E rfl (B.slHB (a:=s) (j:=m) rfl rfl un9 rfl (by first|omega|(have hc2:=hc;simp at hc2;omega))) (C rfl (w193 hp he hm hj hj2 hjw (List.take m s) (by rw[←ht];omega)) rfl rfl rfl (E rfl (B.runZ rfl (fun l=>Frz.boxN l rfl) rfl) (C rfl (w101 (!(evP (List.take m s))) 25) rfl rfl rfl (C rfl (w101 (decide ((evE (List.take m s)).1≠k)) 11) rfl rfl rfl (E rfl (B.runZ (val:=.pv (.slice (List.map eI [(whenF (!(evP (List.take m s))) 25),(whenF (decide ((evE (List.take m s)).1≠k)) 11)]))) rfl (fun l=>Frz.arr l _ _ _ _ _) rfl) (C rfl (w100 [(whenF (!(evP (List.take m s))) 25),(whenF (decide ((evE (List.take m s)).1≠k)) 11)] (nB rfl)) rfl rfl rfl (Dr rfl (by kernel_rfl) (Rt rfl (leaf (val0:=.tup [.pv (.agg [pI (evE (List.take m s)).1,pS (bsO (evE (List.take m s)).2.1),pL eN (evE (List.take m s)).2.2.1,pL eI (evE (List.take m s)).2.2.2.1,pS (bsO (evE (List.take m s)).2.2.2.2)]),vI (firstF [(whenF (!(evP (List.take m s))) 25),(whenF (decide ((evE (List.take m s)).1≠k)) 11)])]) (by kernel_rfl) (tup2 (lag (lcons (pli (by rw[hq])) (lcons (pls (by rw[hq])) (lcons (plsl (by rw[hq])) (lcons (plsl (by rw[hq])) (lcons (pls (by rw[hq])) rfl)))))) (li (by rw[hq]))))))))))))
end Go.Lens.Tm
end
section
namespace Go.Lens.Tm
open Go.Lens.Tb Go.Proofs
set_option linter.unusedSectionVars false
variable [Lz]
def lnR (s:List UInt8) (k:Int):Int:=if (recR s).2=0∧(recR s).1.1≠k then 11 else (recR s).2
theorem ln_same (s:List UInt8) (k:Int):(lnP s k).2=lnR s k∧(lnR s k=0→(lnP s k).1=(recR s).1):=by
 obtain⟨o1,o2⟩:=ok_same (txR s)
 unfold lnR lnP
 by_cases hs:sgR s≠0
 ·have e:recR s=(zV,sgR s):=by unfold recR;rw[if_pos hs]
  rw[if_pos hs,e,if_neg (fun h=>hs h.1)]
  exact⟨rfl,fun h=>rfl⟩
 have e:recR s=if okR (txR s)=true then (evR (txR s),0) else (zV,25):=by unfold recR;rw[if_neg hs]
 rw[if_neg hs,e,o1]
 cases hp:evP (txR s)
 ·simp only[Bool.false_eq_true,if_false]
  rw[if_neg (fun h=>absurd h.1 (by decide))]
  exact⟨rfl,fun h=>by cases h⟩
 ·rw[if_pos (show (true:Bool)=true from rfl),o2 hp]
  refine⟨?_,fun _=>rfl⟩
  by_cases hk:(evE (txR s)).1=k
  ·rw[if_neg (fun h=>h.2 hk),decide_eq_false (by simpa using hk)];rfl
  ·rw[if_pos ⟨rfl,hk⟩,decide_eq_true hk];rfl
def rcG:Nat→List UInt8→List Ev→Int→List Ev×Int×Int
 | 0,q,out,a=>(out,a,if q=[] then 0 else 28)
 | n+1,q,out,a=>if q=[] then (out,a,0) else if Lib.indexByte q 10<0 then (out,a,28) else
   if (lnP (q.take (Lib.indexByte q 10).toNat) ((out.length:Int)+1)).2≠0 then (out,a,(lnP (q.take (Lib.indexByte q 10).toNat) ((out.length:Int)+1)).2)
   else rcG n (q.drop ((Lib.indexByte q 10).toNat+1)) (out++[(lnP (q.take (Lib.indexByte q 10).toNat) ((out.length:Int)+1)).1]) (a+(Lib.indexByte q 10+1))
def rcV (s:List UInt8):List Ev×Int×Int:=if 1000000<s.length then ([],0,26) else rcG s.length s [] 0
section
variable {n m:Nat} {q:List UInt8} {out:List Ev} {a:Int}
theorem rc_nil (h:q=[]):rcG n q out a=(out,a,0):=by
 subst h;cases n<;>rfl
theorem rc_no (hq:q≠[]) (h:Lib.indexByte q 10<0):rcG n q out a=(out,a,28):=by
 cases n with
 | zero=>rw[rcG,if_neg hq]
 | succ n=>rw[rcG,if_neg hq,if_pos h]
theorem rc_at (h:Lib.indexByte q 10=(m:Int)) (hn:q.length≤n):1≤n∧rcG n q out a=if (lnP (q.take m) ((out.length:Int)+1)).2≠0 then (out,a,(lnP (q.take m) ((out.length:Int)+1)).2) else rcG (n-1) (q.drop (m+1)) (out++[(lnP (q.take m) ((out.length:Int)+1)).1]) (a+((m:Int)+1)):=by
 obtain⟨m2,_,h1,_,_⟩:=ix_nat (show 0≤Lib.indexByte q 10 by omega)
 have hq:q≠[]:=fun e=>by subst e;simp at h1
 cases n with
 | zero=>exact absurd (List.eq_nil_of_length_eq_zero (by omega)) hq
 | succ n=>
  refine⟨by omega,?_⟩
  rw[rcG,if_neg hq,if_neg (by omega),h,Int.toNat_natCast]
  rfl
end
end Go.Lens.Tm
end
section
namespace Go.Lens.Tm
open Go.Lens.Tb Go.Proofs
variable [Lz]
set_option linter.unusedSectionVars false
set_option maxRecDepth 100000
attribute [local irreducible] TK PK T RG EfR Body CG
theorem by119:ty119.info.bytes=88:=by kernel_rfl
theorem in119:tab.info? 119=some ty119.info:=by kernel_rfl
set_option maxHeartbeats 4000000 in
theorem w67 (hp:PowLaid) (he:ErrLaid) (hm:OrcOk Tryz.prog (mergeO 121)) (hj:JoinOk) (hj2:Join2Ok) (hjw:JoinW) (s:List UInt8) (hl:s.length≤4000):CallOk Tryz.prog 67 [vS (bsO s)] (lookM []) (.tup [vL eE (rcV s).1,vI (rcV s).2.1,vI (rcV s).2.2]) []:=by
 refine cG qf67 rfl (nB rfl) rfl (E rfl (B.nilS (enc:=eE) rfl) (E rfl (B.lenB (a:=s) rfl un9) (Cp rfl rfl (fun h1=>?_) (fun h1=>?_))))
 ·exact absurd h1 (by omega)
 ·refine E rfl (B.adopt 6 5 119 rfl rfl) (l3 (fun (p:Nat) (v:Nat) (out:List Ev)=>[(0,vS (bsO s)),(5,.aref 6 v),(6,vI p)]) (fun _ v out=>[(6,.arr v 5 119 (List.map eE out))]) (fun p _ out=>p≤s.length∧out.length≤p∧∃ n,List.length (List.drop p s)≤n∧rcV s=rcG n (List.drop p s) out (p:Int)) (fun p _ _=>s.length-p) 0 0 [] rfl ?_ (sb rfl rfl rfl) ?_)
  · (exact⟨Nat.zero_le _,Nat.le_refl _,s.length,Nat.le_refl _,by unfold rcV;rw[if_neg (by omega)];rfl⟩)
  intro p v out hI0
  refine E rfl (B.lenB (a:=s) rfl un9) (Cp rfl rfl (fun h2=>?_) (fun h2=>?_))
  ·refine E rfl (B.slLB (a:=s) (i:=p) rfl rfl un9 rfl (by first|omega|(simp only[List.length_append,List.length_cons,List.length_nil];omega))) (C rfl (w117 hp (List.drop p s) 10 (by rw[List.length_drop];omega)) rfl rfl rfl (Cb rfl rfl (fun h3=>?_) (fun h3=>?_)))
   ·obtain⟨n,hn,hr⟩:=hI0.2.2
    have hneg:Lib.indexByte (List.drop p s) 10<0:=by
      by_cases hz:Lib.indexByte (List.drop p s) 10<0
      ·exact hz
      ·rw[cut3_yes (n:=(Lib.indexByte (List.drop p s) 10).toNat) (by omega)] at h3;cases h3
    have hq:=hr.trans (rc_no (fun e=>by have e2:=congrArg List.length e;rw[List.length_drop,List.length_nil] at e2;omega) hneg)
    exact Fz 8 5 rfl rfl rfl (Rt rfl (leaf (val0:=.tup [vL eE out,vI p,vI 28]) (by kernel_rfl) (tup3 (lsl (by rw[hq])) (li (by rw[hq])) (li (by rw[hq])))))
   ·refine tk 9 rfl ?_
    refine tn ⟨[(0,vS (bsO s)),(5,.aref 6 v),(6,vI p),(7,vS (bsO (cut3 (List.drop p s) 10).1))],[(6,.arr v 5 119 (List.map eE out))]⟩ rfl rfl rfl ?_
    obtain⟨n,hn,hr⟩:=hI0.2.2
    have hpos:¬Lib.indexByte (List.drop p s) 10<0:=fun hz=>by rw[cut3_no (by omega)] at h3;cases h3
    obtain⟨m,hm0,hm1,_,_⟩:=ix_nat (show 0≤Lib.indexByte (List.drop p s) 10 by omega)
    have hc1:(cut3 (List.drop p s) 10).1=List.take m (List.drop p s):=by rw[cut3_yes hm0]
    rw[hc1]
    have hqp:List.length (List.drop p s)=s.length-p:=List.length_drop
    have hlm:List.length (List.take m (List.drop p s))=m:=by rw[List.length_take];omega
    obtain⟨hn1,hra⟩:=rc_at (out:=out) (a:=(p:Int)) hm0 hn
    refine kc (E rfl (B.lenA rfl rfl un121) (E rfl (B.add rfl rfl (by unfold R64;omega)) (C rfl (w142 hp he hm hj hj2 hjw (List.take m (List.drop p s)) ((out.length:Int)+1) (by rw[hlm];omega)) rfl rfl rfl (E rfl (B.runZ rfl (fun l=>Frz.boxN l rfl) rfl) (Cp rfl rfl (fun h4=>?_) (fun h4=>?_))))))
    ·have hq:=hr.trans (hra.trans (if_pos h4))
     exact Fz 11 5 rfl rfl rfl (Rt rfl (leaf (val0:=.tup [vL eE out,vI p,vI (lnP (List.take m (List.drop p s)) ((out.length:Int)+1)).2]) (by kernel_rfl) (tup3 (lsl (by rw[hq])) (li (by rw[hq])) (li (by rw[hq])))))
    ·refine E rfl (B.runZ (val:=.pv (.slice (List.map eE [(lnP (List.take m (List.drop p s)) ((out.length:Int)+1)).1]))) rfl (fun l=>Frz.arr l _ _ _ _ _) rfl) (E rfl (B.append rfl rfl rfl un121 in119 rfl (fun _=>rfl) by119 (by first|omega|(simp only[List.length_append,List.length_cons,List.length_nil];omega))) ?_)
     have hra2:=hr.trans (hra.trans (if_neg h4))
     refine E rfl (B.lenB (a:=(List.take m (List.drop p s))) rfl un9) (E rfl (B.add rfl rfl (by unfold R64;omega)) (E rfl (B.add rfl rfl (by unfold R64;omega)) (pk rfl (L3 (p+(List.length (List.take m (List.drop p s))+1)) (v+1) (out++[(lnP (List.take m (List.drop p s)) ((out.length:Int)+1)).1]) ?_ ?_ (sb rfl rfl rfl)))))
     · (refine⟨by omega,by simp only[List.length_append,List.length_cons,List.length_nil];omega,n-1,by rw[List.length_drop];omega,?_⟩;rw[hra2,List.drop_drop,hlm];rfl)
     · omega
  ·obtain⟨n,hn,hr⟩:=hI0.2.2
   have hq:=hr.trans (rc_nil (List.eq_nil_of_length_eq_zero (by rw[List.length_drop];omega)))
   exact Fz 14 5 rfl rfl rfl (Rt rfl (leaf (val0:=.tup [vL eE out,vI p,vI 0]) (by kernel_rfl) (tup3 (lsl (by rw[hq])) (li (by rw[hq])) (li (by rw[hq])))))
end Go.Lens.Tm
end
section
namespace Go.Lens.Tm
open Go.Lens.Tb Go.Proofs
set_option linter.unusedSectionVars false
variable [Lz]
theorem ix_of {q:List UInt8} {c:UInt8} {m:Nat} (h:m<q.length) (h1:q.getD m 0=c) (h2:∀ j,j<m→q.getD j 0≠c):Lib.indexByte q c=(m:Int):=by
 have hp:0≤Lib.indexByte q c:=by
  by_cases hz:Lib.indexByte q c<0
  ·exact absurd (h1▸getD_mem h) (ix_neg hz)
  ·omega
 obtain⟨n,e,k1,k2,k3⟩:=ix_nat hp
 rcases Nat.lt_trichotomy n m with h|h|h
 ·exact absurd k2 (h2 n h)
 ·rw[e,h]
 ·exact absurd h1 (k3 m h)
theorem lnR_11 {s:List UInt8} {k:Int} (h:(bif (decide ((recR s).2=0)) then (decide ((recR s).1.1≠k)) else false)=true):lnR s k=11:=by
 unfold lnR
 by_cases h1:(recR s).2=0
 ·rw[decide_eq_true h1] at h
  exact if_pos ⟨h1,of_decide_eq_true h⟩
 ·rw[decide_eq_false h1] at h;cases h
theorem lnR_o {s:List UInt8} {k:Int} (h:(bif (decide ((recR s).2=0)) then (decide ((recR s).1.1≠k)) else false)=false):lnR s k=(recR s).2:=by
 unfold lnR
 refine if_neg fun h1=>?_
 rw[decide_eq_true h1.1,decide_eq_true h1.2] at h;cases h
def RcI (s:List UInt8) (p i:Nat) (out:List Ev):Prop:=p≤i∧i≤s.length∧out.length≤p∧(∀ j,j<i-p→(s.drop p).getD j 0≠10)∧∃ n,(s.drop p).length≤n∧rcV s=rcG n (s.drop p) out ((p:Nat):Int)
theorem drop_getD {s:List UInt8} {p j:Nat}:(s.drop p).getD j 0=s.getD (p+j) 0:=by
 rw[List.getD_eq_getElem?_getD,List.getD_eq_getElem?_getD,List.getElem?_drop]
section
variable {s:List UInt8} {p i:Nat} {out:List Ev} (h:RcI s p i out)
include h
theorem rk_skip (hi:i<s.length) (hb:byteAt (bsO s) i≠10):RcI s p (i+1) out:=by
 obtain⟨h1,h2,h3,h4,h5⟩:=h
 refine⟨by omega,by omega,h3,fun j hj=>?_,h5⟩
 by_cases hj2:j<i-p
 ·exact h4 j hj2
 ·have e:j=i-p:=by omega
  subst e
  rw[drop_getD,show p+(i-p)=i by omega]
  intro e
  apply hb
  show (((s.getD i 0).toNat:Nat):Int)=10
  rw[e];rfl
theorem rk_at (hi:i<s.length) (hb:¬byteAt (bsO s) i≠10):∃ n,(s.drop p).length≤n∧1≤n∧rcV s=if (lnP ((s.drop p).take (i-p)) ((out.length:Int)+1)).2≠0 then (out,((p:Nat):Int),(lnP ((s.drop p).take (i-p)) ((out.length:Int)+1)).2) else rcG (n-1) (s.drop (i+1)) (out++[(lnP ((s.drop p).take (i-p)) ((out.length:Int)+1)).1]) (((i+1:Nat)):Int):=by
 obtain⟨h1,h2,h3,h4,n,h5,h6⟩:=h
 have hv:s.getD i 0=10:=by
  have hb2:(((s.getD i 0).toNat:Nat):Int)=10:=Decidable.not_not.1 hb
  apply UInt8.toNat_inj.1
  show (s.getD i 0).toNat=10
  omega
 have hx:Lib.indexByte (s.drop p) 10=((i-p:Nat):Int):=ix_of (by rw[List.length_drop];omega) (by rw[drop_getD,show p+(i-p)=i by omega];exact hv) h4
 obtain⟨k1,k2⟩:=rc_at (out:=out) (a:=((p:Nat):Int)) hx h5
 refine⟨n,h5,k1,?_⟩
 rw[h6,k2,List.drop_drop,show p+(i-p+1)=i+1 by omega,show ((p:Nat):Int)+(((i-p:Nat):Int)+1)=((i+1:Nat):Int) by omega]
theorem rk_stop (hi:i<s.length) (hb:¬byteAt (bsO s) i≠10) (hc:lnR ((s.drop p).take (i-p)) ((out.length:Int)+1)≠0):rcV s=(out,((p:Nat):Int),lnR ((s.drop p).take (i-p)) ((out.length:Int)+1)):=by
 obtain⟨n,_,_,e⟩:=rk_at h hi hb
 rw[e,(ln_same _ _).1,if_pos hc]
theorem rk_next (hi:i<s.length) (hb:¬byteAt (bsO s) i≠10) (hc:¬lnR ((s.drop p).take (i-p)) ((out.length:Int)+1)≠0):RcI s (i+1) (i+1) (out++[(recR ((s.drop p).take (i-p))).1]):=by
 obtain⟨n,e1,e2,e⟩:=rk_at h hi hb
 rw[(ln_same _ _).1,if_neg hc,(ln_same _ _).2 (Decidable.not_not.1 hc)] at e
 obtain⟨h1,h2,h3,_⟩:=h
 rw[List.length_drop] at e1
 exact⟨Nat.le_refl _,hi,by rw[List.length_append,List.length_singleton];omega,fun j hj=>absurd hj (by omega),n-1,by rw[List.length_drop];omega,e⟩
theorem rk_28 (hi:¬i<s.length) (hp:p<s.length):rcV s=(out,((p:Nat):Int),28):=by
 obtain⟨h1,h2,h3,h4,n,h5,h6⟩:=h
 have hz:Lib.indexByte (s.drop p) 10<0:=by
  by_cases hz:Lib.indexByte (s.drop p) 10<0
  ·exact hz
  ·obtain⟨m,_,k1,k2,_⟩:=ix_nat (show 0≤Lib.indexByte (s.drop p) 10 by omega)
   rw[List.length_drop] at k1
   exact absurd k2 (h4 m (by omega))
 rw[h6,rc_no (fun e=>by have:=congrArg List.length e;rw[List.length_drop,List.length_nil] at this;omega) hz]
theorem rk_0 (hi:¬i<s.length) (hp:¬p<s.length):rcV s=(out,((p:Nat):Int),0):=by
 obtain⟨h1,h2,h3,h4,n,h5,h6⟩:=h
 rw[h6,rc_nil (List.eq_nil_of_length_eq_zero (by rw[List.length_drop];omega))]
end
end Go.Lens.Tm
end
section
namespace Go.Lens.Tm
open Go.Lens.Tb Go.Proofs
variable [Lz]
set_option linter.unusedSectionVars false
set_option maxRecDepth 100000
attribute [local irreducible] TK PK T RG EfR Body CG
set_option maxHeartbeats 4000000 in
theorem w68 (s:List UInt8) (hl:s.length≤4000):CallOk Tryz.prog 68 [vS (bsO s)] (lookM []) (.tup [vL eE (rcV s).1,vI (rcV s).2.1,vI (rcV s).2.2]) []:=by
 refine cG qf68 rfl (nB rfl) rfl (E rfl (B.nilS (enc:=eE) rfl) (E rfl (B.lenB (a:=s) rfl un9) (Cp rfl rfl (fun h1=>?_) (fun h1=>?_))))
 ·exact absurd h1 (by omega)
 ·refine E rfl (B.adopt 6 5 119 rfl rfl) (l4 (fun (p:Nat) (i:Nat) (v:Nat) (out:List Ev)=>[(0,vS (bsO s)),(5,.aref 6 v),(6,vI p),(7,vI i)]) (fun _ _ v out=>[(6,.arr v 5 119 (List.map eE out))]) (fun p i _ out=>RcI s p i out) (fun _ i _ _=>s.length-i) 0 0 0 [] rfl ?_ (sb rfl rfl rfl) ?_)
  · (exact⟨Nat.le_refl _,Nat.zero_le _,Nat.le_refl _,fun j hj=>absurd hj (by omega),s.length,Nat.le_refl _,by unfold rcV;rw[if_neg (by omega)];rfl⟩)
  intro p i v out hI0
  have hp1:=hI0.1
  have hp2:=hI0.2.1
  have hp3:=hI0.2.2.1
  refine E rfl (B.lenB (a:=s) rfl un9) (Cp rfl rfl (fun h2=>?_) (fun h2=>?_))
  ·refine E rfl (B.sidx (i:=i) rfl rfl un9 rfl (show i<s.length from (by first|omega|(simp only[List.length_append,List.length_cons,List.length_nil];omega)))) (Cp rfl rfl (fun h3=>?_) (fun h3=>?_))
   ·refine E rfl (B.add rfl rfl (by unfold R64;omega)) (pk rfl (L4 p (i+1) v out ?_ ?_ (sb rfl rfl rfl)))
    · first|exact rk_skip hI0 (by omega) h3|exact rk_next hI0 (by omega) h3 (by assumption)
    · omega
   ·have hp1:=hI0.1
    have hp2:=hI0.2.1
    have hp3:=hI0.2.2.1
    refine E rfl (B.slMB (a:=s) (i:=p) (j:=i) rfl rfl rfl un9 rfl rfl (by first|omega|(simp only[List.length_append,List.length_cons,List.length_nil];omega)) (by first|omega|(simp only[List.length_append,List.length_cons,List.length_nil];omega))) (C rfl (w143 (List.drop p (List.take i s)) (by simp only[List.length_drop,List.length_take];omega)) rfl rfl rfl (E rfl (B.runZ rfl (fun l=>Frz.boxN l rfl) rfl) ?_))
    refine tk 10 rfl ?_
    refine tn ⟨[(0,vS (bsO s)),(5,.aref 6 v),(6,vI p),(7,vI i),(8,.bref 9 0),(9,vI (recR (List.drop p (List.take i s))).2)],[(6,.arr v 5 119 (List.map eE out)),(9,.box 119 [vI (recR (List.drop p (List.take i s))).1.1,vS (bsO (recR (List.drop p (List.take i s))).1.2.1),vL eN (recR (List.drop p (List.take i s))).1.2.2.1,vL eI (recR (List.drop p (List.take i s))).1.2.2.2.1,vS (bsO (recR (List.drop p (List.take i s))).1.2.2.2.2)])]⟩ rfl rfl rfl ?_
    have hdl:(List.drop p (List.take i s))=(List.take (i-p) (List.drop p s)):=by first|rfl|exact List.drop_take|(rw[List.drop_take])
    rw[hdl]
    refine kc (Eg rfl rfl (fun hc=>B.fadB rfl fa119_0 rfl) rfl (Eg rfl rfl (fun hc=>B.loadB (ev1_gd rfl hc) rfl rfl ag3 sz3 rfl) rfl (Eg rfl rfl (fun hc=>B.run rfl) rfl (Eg rfl rfl (fun hc=>B.lenA (ev1_gd rfl hc) rfl un121) rfl (Eg rfl rfl (fun hc=>B.add (ev1_gd rfl hc) rfl (by unfold R64;omega)) rfl (Eg rfl rfl (fun hc=>B.neq (ev1_gd rfl hc) (ev1_gd rfl hc)) rfl (E rfl (B.pick rfl rfl rfl (gdB rfl) rfl (pick_and _)) (Cj [(0,vS (bsO s)),(5,.aref 6 v),(6,vI p),(7,vI i),(8,.bref 9 0),(9,vI (lnR (List.take (i-p) (List.drop p s)) ((out.length:Int)+1)))] [(6,.arr v 5 119 (List.map eE out)),(9,.box 119 [vI (recR (List.take (i-p) (List.drop p s))).1.1,vS (bsO (recR (List.take (i-p) (List.drop p s))).1.2.1),vL eN (recR (List.take (i-p) (List.drop p s))).1.2.2.1,vL eI (recR (List.take (i-p) (List.drop p s))).1.2.2.2.1,vS (bsO (recR (List.take (i-p) (List.drop p s))).1.2.2.2.2)])] rfl rfl rfl (fun h4=>?_) (fun h4=>?_) ?_))))))))
    ·refine pk rfl ?_
     show Sub _ _ _
     first|rw[lnR_11 (by assumption)]|rw[lnR_o (by assumption)]
     exact sb rfl rfl rfl
    ·refine pk rfl ?_
     show Sub _ _ _
     first|rw[lnR_11 (by assumption)]|rw[lnR_o (by assumption)]
     exact sb rfl rfl rfl
    ·refine Cp rfl rfl (fun h5=>?_) (fun h5=>?_)
     ·have hq:=rk_stop hI0 (by omega) h3 (by assumption)
      exact Fz 13 5 rfl rfl rfl (Rt rfl (leaf (val0:=.tup [vL eE out,vI p,vI (lnR (List.take (i-p) (List.drop p s)) ((out.length:Int)+1))]) (by kernel_rfl) (tup3 (lsl (by rw[hq])) (li (by rw[hq])) (li (by rw[hq])))))
     ·refine E rfl (B.runZ (val:=.pv (.slice (List.map eE [(recR (List.take (i-p) (List.drop p s))).1]))) rfl (fun l=>Frz.arr l _ _ _ _ _) rfl) (E rfl (B.append rfl rfl rfl un121 in119 rfl (fun _=>rfl) by119 (by first|omega|(simp only[List.length_append,List.length_cons,List.length_nil];omega))) (E rfl (B.add rfl rfl (by unfold R64;omega)) (E rfl (B.add rfl rfl (by unfold R64;omega)) (pk rfl (L4 (i+1) (i+1) (v+1) (out++[(recR (List.take (i-p) (List.drop p s))).1]) ?_ ?_ (sb rfl rfl rfl))))))
      · first|exact rk_skip hI0 (by omega) h3|exact rk_next hI0 (by omega) h3 (by assumption)
      · omega
  ·refine E rfl (B.lenB (a:=s) rfl un9) (Cp rfl rfl (fun h6=>?_) (fun h6=>?_))
   ·have hq:=rk_28 hI0 (by omega) (by omega)
    exact Fz 17 5 rfl rfl rfl (Rt rfl (leaf (val0:=.tup [vL eE out,vI p,vI 28]) (by kernel_rfl) (tup3 (lsl (by rw[hq])) (li (by rw[hq])) (li (by rw[hq])))))
   ·have hq:=rk_0 hI0 (by omega) (by omega)
    exact Fz 18 5 rfl rfl rfl (Rt rfl (leaf (val0:=.tup [vL eE out,vI p,vI 0]) (by kernel_rfl) (tup3 (lsl (by rw[hq])) (li (by rw[hq])) (li (by rw[hq])))))
end Go.Lens.Tm
end
section
namespace Go.Lens.Tm
open Go.Lens.Tb Go.Proofs
set_option linter.unusedSectionVars false
variable [Lz]
theorem rcG_len:∀ (n:Nat) (q:List UInt8) (out:List Ev) (a:Int),(rcG n q out a).1.length≤out.length+n
 | 0,q,out,a=>by rw[rcG];exact Nat.le_refl _
 | n+1,q,out,a=>by
  rw[rcG]
  split
  ·show out.length≤_;omega
  split
  ·show out.length≤_;omega
  split
  ·show out.length≤_;omega
  ·have:=rcG_len n (q.drop ((Lib.indexByte q 10).toNat+1)) (out++[(lnP (q.take (Lib.indexByte q 10).toNat) ((out.length:Int)+1)).1]) (a+(Lib.indexByte q 10+1))
   rw[List.length_append,List.length_singleton] at this
   omega
theorem rcV_len (s:List UInt8):(rcV s).1.length≤s.length:=by
 unfold rcV
 split
 ·simp
 ·have:=rcG_len s.length s [] 0
  simpa using this
def apC (s:List UInt8) (e:Ev):Int:=firstF [(rcV s).2.2,chkE e,whenF (decide (e.1≠((List.length (rcV s).1:Nat):Int)+1)) 11]
def apV (s:List UInt8) (e:Ev):List UInt8×Int:=if apC s e≠0 then ([],apC s e) else if 1000000<(s++recE e).length then ([],26) else (s++recE e,0)
theorem ap_ok {s:List UInt8} {e:Ev} (h:apC s e=0):chkE e=0:=(first3c0 h).2.1
theorem ap_no {s:List UInt8} {e:Ev} (h:apC s e≠0):apV s e=([],apC s e):=if_pos h
theorem ap_26 {s:List UInt8} {e:Ev} (h:¬apC s e≠0) (h2:(1000000:Int)<((List.length (s++recE e):Nat):Int)):apV s e=([],26):=by
 unfold apV;rw[if_neg h,if_pos (by omega)]
theorem ap_yes {s:List UInt8} {e:Ev} (h:¬apC s e≠0) (h2:¬(1000000:Int)<((List.length (s++recE e):Nat):Int)):apV s e=(s++recE e,0):=by
 unfold apV;rw[if_neg h,if_neg (by omega)]
end Go.Lens.Tm
end
section
namespace Go.Lens.Tm
open Go.Lens.Tb Go.Proofs
variable [Lz]
set_option linter.unusedSectionVars false
set_option maxRecDepth 100000
attribute [local irreducible] TK PK T RG EfR Body CG
set_option maxHeartbeats 4000000 in
theorem w66 (hp:PowLaid) (he:ErrLaid) (hm:OrcOk Tryz.prog (mergeO 121)) (hj:JoinOk) (hj2:Join2Ok) (hjw:JoinW) (s:List UInt8) (e:Ev) (hl:s.length≤4000) (hT:e.2.2.2.2.length≤4000) (hN:e.2.2.1.length≤1000) (hV:e.2.2.2.1.length≤1000):CallOk Tryz.prog 66 [vS (bsO s),.pv (.agg [pI e.1,pS (bsO e.2.1),pL eN e.2.2.1,pL eI e.2.2.2.1,pS (bsO e.2.2.2.2)])] (lookM []) (.tup [vS (bsO (apV s e).1),vI (apV s e).2]) []:=by
 refine cG qf66 rfl (nB rfl) rfl ?_
 have hrl:=rcV_len s
 refine C rfl (w67 hp he hm hj hj2 hjw s (by omega)) rfl rfl rfl (C rfl (w81 hp he hm hj hj2 e (by omega) (by omega) (by omega)) rfl rfl rfl (E rfl (B.lenL rfl un121) (E rfl (B.add rfl rfl (by unfold R64;omega)) (C rfl (w101 (decide (e.1≠(((List.length (rcV s).1:Nat):Int)+1))) 11) rfl rfl rfl (E rfl (B.runZ (val:=.pv (.slice (List.map eI [(rcV s).2.2,(chkE e),(whenF (decide (e.1≠(((List.length (rcV s).1:Nat):Int)+1))) 11)]))) rfl (fun l=>Frz.arr l _ _ _ _ _) rfl) (C rfl (w100 [(rcV s).2.2,(chkE e),(whenF (decide (e.1≠(((List.length (rcV s).1:Nat):Int)+1))) 11)] (nB rfl)) rfl rfl rfl (Dr rfl (by kernel_rfl) ?_)))))))
 refine tk 3 rfl ?_
 refine tn ⟨[(0,vS (bsO s)),(3,.bref 4 0),(8,vI (firstF [(rcV s).2.2,(chkE e),(whenF (decide (e.1≠(((List.length (rcV s).1:Nat):Int)+1))) 11)]))],[(4,.box 119 [vI e.1,vS (bsO e.2.1),vL eN e.2.2.1,vL eI e.2.2.2.1,vS (bsO e.2.2.2.2)])]⟩ rfl rfl rfl ?_
 rw[show (firstF [(rcV s).2.2,(chkE e),(whenF (decide (e.1≠(((List.length (rcV s).1:Nat):Int)+1))) 11)])=apC s e from rfl]
 refine kc (Cp rfl rfl (fun h1=>?_) (fun h1=>?_))
 ·have hq:=ap_no h1
  exact Rt rfl (leaf (val0:=.tup [vS (bsO []),vI (apC s e)]) (by kernel_rfl) (tup2 (ls (by rw[hq])) (li (by rw[hq]))))
 ·have ok:=okE_of (ap_ok (Decidable.not_not.1 h1))
  refine C rfl (w141 hp hm hjw e ok (by omega)) rfl rfl rfl (E rfl (B.catB (a:=s) (b:=(recE e)) rfl rfl (by first|omega|(have hbl:=body_len ok (by omega);have hsl:=sumS_len (bodyE e);unfold recE;simp only[List.length_append,List.length_cons,List.length_nil];omega))) (E rfl (B.lenB (a:=(s++(recE e))) rfl un9) (Cp rfl rfl (fun h2=>?_) (fun h2=>?_))))
  ·have hq:=ap_26 h1 h2
   exact Rt rfl (leaf (val0:=.tup [vS (bsO []),vI 26]) (by kernel_rfl) (tup2 (ls (by rw[hq])) (li (by rw[hq]))))
  ·have hq:=ap_yes h1 h2
   exact Rt rfl (leaf (val0:=.tup [vS (bsO (s++(recE e))),vI 0]) (by kernel_rfl) (tup2 (ls (by rw[hq])) (li (by rw[hq]))))
end Go.Lens.Tm
end
section
namespace Go.Lens.Tm
open Go.Lens.Tb Go.Proofs
set_option linter.unusedSectionVars false
variable [Lz]
def shC (e:Ev):Bool:=(bif (bif (bif (decide (60<((e.2.1.length:Nat):Int))) then true else (decide (6<((e.2.2.1.length:Nat):Int)))) then true else (decide (9<((e.2.2.2.1.length:Nat):Int)))) then true else (decide (300<((e.2.2.2.2.length:Nat):Int))))
def shN (e:Ev):Bool:=e.2.2.1.all fun w=>!decide (60<((w.length:Nat):Int))
def shR (e:Ev):Bool:=bif (decide (e.2.1=kRun)&&txtB e) then !decide (40<lenP (parScr cmdR e.2.2.2.2).1) else true
def shE (e:Ev):Bool:=bif shC e then false else (bif shN e then shR e else false)
theorem shE_bd {e:Ev} (h:shE e=true):e.2.1.length≤60∧e.2.2.1.length≤6∧e.2.2.2.1.length≤9∧e.2.2.2.2.length≤300∧∀ w∈e.2.2.1,w.length≤60:=by
 unfold shE at h
 cases hc:shC e
 ·rw[hc] at h
  cases hn:shN e
  ·rw[hn] at h;cases h
  unfold shC at hc
  simp only[bif_or,Bool.or_eq_false_iff,decide_eq_false_iff_not] at hc
  refine⟨by omega,by omega,by omega,by omega,fun w hw=>?_⟩
  have:=List.all_eq_true.1 hn w hw
  simp at this
  omega
 ·rw[hc] at h;cases h
abbrev cR (e:Ev):Bool:=bif (decide (e.2.1=[114,117,110])) then (decide ((whenF (!(txtB e)) 1)=0)) else false
theorem cR_eq (e:Ev):cR e=(decide (e.2.1=kRun)&&txtB e):=by
 show (bif (decide (e.2.1=kRun)) then (decide ((whenF (!(txtB e)) 1)=0)) else false)=_
 cases decide (e.2.1=kRun)
 ·rfl
 ·cases txtB e<;>rfl
section
variable {e:Ev}
theorem sh_t (h:shC e=false):e.2.2.2.2.length≤300:=by
 unfold shC at h
 simp only[bif_or,Bool.or_eq_false_iff,decide_eq_false_iff_not] at h
 omega
theorem sh_6 (h:shC e=false):e.2.2.1.length≤6:=by
 unfold shC at h
 simp only[bif_or,Bool.or_eq_false_iff,decide_eq_false_iff_not] at h
 omega
theorem sh_k (h:cR e=true):chkS (parScr cmdR e.2.2.2.2).1=0:=by
 rw[cR_eq,Bool.and_eq_true] at h
 have h1:=h.2
 rw[txt_run (of_decide_eq_true h.1)] at h1
 unfold scrB at h1
 rw[par_same,Bool.and_eq_true,Bool.and_eq_true] at h1
 have h2:=of_decide_eq_true h1.2.1
 rcases parScr_all cmdR e.2.2.2.2 with h3|h3
 ·rw[h3] at h2;simp at h2
 ·exact h3
theorem sh_c (h:shC e=true):shE e=false:=by unfold shE;rw[h];rfl
theorem sh_n {k:Nat} (hk:k<e.2.2.1.length) (h:(60:Int)<((List.length (e.2.2.1.getD k []):Nat):Int)):shE e=false:=by
 have:shN e=false:=by
  unfold shN
  rw[List.all_eq_false]
  exact⟨_,getD_mem (z:=[]) hk,by rw[decide_eq_true h];decide⟩
 unfold shE;rw[this];cases shC e<;>rfl
theorem sh_r (h:cR e=true) (h7:40<lenP (parScr cmdR e.2.2.2.2).1):shE e=false:=by
 have:shR e=false:=by unfold shR;rw[←cR_eq,h,decide_eq_true h7];rfl
 unfold shE;rw[this];cases shC e<;>cases shN e<;>rfl
theorem sh_nm (h:∀ j,j<e.2.2.1.length→¬(60:Int)<((List.length (e.2.2.1.getD j []):Nat):Int)):shN e=true:=by
 unfold shN
 rw[List.all_eq_true]
 intro w hw
 obtain⟨j,hj,e1⟩:=List.getElem_of_mem hw
 have h2:=h j hj
 rw[List.getD_eq_getElem?_getD,List.getElem?_eq_getElem hj,Option.getD_some,e1] at h2
 rw[decide_eq_false h2];rfl
theorem sh_y1 (h:shC e=false) (hn:∀ j,j<e.2.2.1.length→¬(60:Int)<((List.length (e.2.2.1.getD j []):Nat):Int)) (hc:cR e=false):shE e=true:=by
 unfold shE shR;rw[h,sh_nm hn,←cR_eq,hc];rfl
theorem sh_y2 (h:shC e=false) (hn:∀ j,j<e.2.2.1.length→¬(60:Int)<((List.length (e.2.2.1.getD j []):Nat):Int)) (hc:cR e=true) (h7:¬40<lenP (parScr cmdR e.2.2.2.2).1):shE e=true:=by
 unfold shE shR;rw[h,sh_nm hn,←cR_eq,hc,decide_eq_false h7];rfl
end
end Go.Lens.Tm
end
section
namespace Go.Lens.Tm
open Go.Lens.Tb Go.Proofs
set_option linter.unusedSectionVars false
end Go.Lens.Tm
end
section
namespace Go.Lens.Tm
open Go.Lens.Tb Go.Proofs
set_option linter.unusedSectionVars false
def unrGo:List Cmd→List (List Cmd×Nat)→List Cmd→List Cmd
 | a,_,[]=>a
 | a,st,c::l=>if c.1=kRep then unrGo [] ((a,c.2.2.toNat)::st) l else if c.1=kEnd then (match st with
   | []=>a
   | p::st=>unrGo (p.1++(List.replicate p.2 a).flatten) st l) else unrGo (a++[c]) st l
def unrP (l:List Cmd):List Cmd:=unrGo [] [] l
def tms (n:Nat) (a:List Cmd):List Cmd:=(List.replicate n a).flatten
end Go.Lens.Tm
end
section
namespace Go.Lens.Tm
open Go.Lens.Tb Go.Proofs
set_option linter.unusedSectionVars false
abbrev LSt:=List UInt8×Int×Bool×Bool
abbrev gS (s:LSt):PV:=.agg [pS (bsO s.1),pI s.2.1,pB s.2.2.1,pB s.2.2.2]
abbrev bS (s:LSt):MO:=.box 81 [vS (bsO s.1),vI s.2.1,vB s.2.2.1,vB s.2.2.2]
abbrev mIdle:List UInt8:=[105,100,108,101]
abbrev mOpen:List UInt8:=[111,112,101,110]
abbrev mClosed:List UInt8:=[99,108,111,115,101,100]
abbrev mSafe:List UInt8:=[115,97,102,101]
def stPV (s:LSt):List PV:=[.lit (.string (bsO s.1)),.lit (.int .i64 s.2.1),.lit (.bool s.2.2.1),.lit (.bool s.2.2.2)]
def knownB (m:List UInt8):Bool:=decide (m=mIdle)||(decide (m=mOpen)||(decide (m=mClosed)||decide (m=mSafe)))
def wrongB (s:LSt):Bool:=((decide (0<s.2.1)&&decide (s.1≠mClosed))||(s.2.2.1&&decide (s.1=mClosed)))||(s.2.2.2&&(decide (s.1=mOpen)||decide (s.1=mClosed)))
def chkSt (s:LSt):Int:=firstF [whenF (!knownB s.1) 13,withinF s.2.1 0 2,whenF (wrongB s) 18]
abbrev aStart:List UInt8:=[115,116,97,114,116]
abbrev aClose:List UInt8:=[99,108,111,115,101]
abbrev aOpen:List UInt8:=[111,112,101,110]
abbrev aStop:List UInt8:=[115,116,111,112]
abbrev aSat:List UInt8:=[115,97,116,117,114,97,116,101]
abbrev aClear:List UInt8:=[99,108,101,97,114]
abbrev aLose:List UInt8:=[108,111,115,101]
abbrev aFind:List UInt8:=[102,105,110,100]
abbrev aGust:List UInt8:=[103,117,115,116]
abbrev aCalm:List UInt8:=[99,97,108,109]
abbrev aReset:List UInt8:=[114,101,115,101,116]
def actNs:List (List UInt8):=[aStart,aClose,aOpen,aStop,aSat,aClear,aLose,aFind,aGust,aCalm,aReset]
def toM (s:LSt) (m:List UInt8):LSt:=(m,if s.1=m then s.2.1 else 0,s.2.2.1,s.2.2.2)
def permA (s:LSt) (a:List UInt8):Bool:=
 if a=aStart then decide (s.1=mIdle)&&!s.2.2.2
 else if a=aClose then decide (s.1=mOpen)&&!s.2.2.1
 else if a=aOpen then decide (s.1=mClosed)
 else if a=aStop then decide (s.1=mOpen)||decide (s.1=mClosed)
 else if a=aSat then decide (s.1=mClosed)
 else if a=aClear then decide (s.1=mClosed)
 else if a=aLose then !s.2.2.1
 else if a=aFind then s.2.2.1
 else if a=aGust then !s.2.2.2
 else if a=aCalm then s.2.2.2
 else decide (s.1=mSafe)&&!s.2.2.2
def effA (s:LSt) (a:List UInt8):LSt:=
 if a=aStart then toM s mOpen
 else if a=aClose then toM s mClosed
 else if a=aOpen then toM s mOpen
 else if a=aStop then toM s mIdle
 else if a=aSat then (if s.2.1+1=3 then toM s mSafe else (s.1,s.2.1+1,s.2.2.1,s.2.2.2))
 else if a=aClear then (s.1,0,s.2.2.1,s.2.2.2)
 else if a=aLose then (if s.1=mClosed then toM (s.1,s.2.1,true,s.2.2.2) mSafe else (s.1,s.2.1,true,s.2.2.2))
 else if a=aFind then (s.1,s.2.1,false,s.2.2.2)
 else if a=aGust then (if s.1=mOpen∨s.1=mClosed then toM (s.1,s.2.1,s.2.2.1,true) mSafe else (s.1,s.2.1,s.2.2.1,true))
 else if a=aCalm then (s.1,s.2.1,s.2.2.1,false)
 else toM s mIdle
def zSt:LSt:=([],0,false,false)
def actP (s:LSt) (a:List UInt8):LSt×Int:=if a∈actNs then (if permA s a then (effA s a,0) else (zSt,18)) else (zSt,13)
def bools:List Bool:=[false,true]
def sts:List LSt:=
 [(mIdle,0,false,false),(mIdle,0,false,true),(mIdle,0,true,false),(mIdle,0,true,true),(mOpen,0,false,false),(mOpen,0,true,false),(mClosed,0,false,false),(mClosed,1,false,false),(mClosed,2,false,false),
  (mSafe,0,false,false),(mSafe,0,false,true),(mSafe,0,true,false),(mSafe,0,true,true)]
end Go.Lens.Tm
end
section
namespace Go.Lens.Tm
open Go.Lens.Tb Go.Proofs
set_option linter.unusedSectionVars false
abbrev Stp:=Int×List UInt8
def eP (p:Stp):List PV:=[.lit (.int .i64 (Prod.fst p)),.lit (.string (bsO (Prod.snd p)))]
abbrev Mc:=LSt×Int×List Stp
abbrev bM (m:Mc):MO:=.box 217 [vS (bsO m.1.1),vI m.1.2.1,vB m.1.2.2.1,vB m.1.2.2.2,vI m.2.1,vI 0,.aref 900 m.2.2.length]
abbrev aM (m:Mc):MO:=.arr m.2.2.length 2 164 (List.map eP m.2.2)
abbrev bE (m:Mc):MO:=.box 220 [vS (bsO m.1.1),vI m.1.2.1,vB m.1.2.2.1,vB m.1.2.2.2,vI m.2.1,vL eP m.2.2,vI 0]
abbrev gE (m:Mc):PV:=.agg [pS (bsO m.1.1),pI m.1.2.1,pB m.1.2.2.1,pB m.1.2.2.2,pI m.2.1,pL eP m.2.2,pI 0]
def take1 (m:Mc) (c:Cmd):Mc×Int:=
 if c.1=kWait then (if 999999999<m.2.1+c.2.2 then (m,3) else ((m.1,m.2.1+c.2.2,m.2.2),0))
 else if 1000≤m.2.2.length then (m,5)
 else if (actP m.1 c.2.1).2≠0 then (m,(actP m.1 c.2.1).2) else (((actP m.1 c.2.1).1,m.2.1,m.2.2++[(m.2.1,c.2.1)]),0)
def takes (m:Mc):List Cmd→Mc×Int
 | []=>(m,0)
 | c::l=>if (take1 m c).2≠0 then take1 m c else takes (take1 m c).1 l
def OkM (m:Mc):Prop:=m.1∈sts∧0≤m.2.1∧m.2.1≤999999999∧m.2.2.length≤1000
def runX (s:LSt) (t:Int) (l:List Cmd):Int:=firstF [chkSt s,withinF t 0 999999999,chkS l]
def runP (s:LSt) (t:Int) (l:List Cmd):Mc×Int:=if runX s t l≠0 then ((zSt,0,[]),runX s t l) else takes (s,t,[]) (unrP l)
end Go.Lens.Tm
end
section
namespace Go.Lens.Tm
open Go.Lens.Tb Go.Proofs
set_option linter.unusedSectionVars false
section
variable {s:LSt}
end
end Go.Lens.Tm
end
section
namespace Go.Lens.Tm
open Go.Lens.Tb Go.Proofs
variable [Lz]
set_option linter.unusedSectionVars false
set_option maxHeartbeats 4000000
set_option maxRecDepth 100000
attribute [local irreducible] TK PK T RG EfR Body CG
end Go.Lens.Tm
end
section
namespace Go.Lens.Tm
open Go.Lens.Tb Go.Proofs
set_option linter.unusedSectionVars false
set_option maxRecDepth 100000
variable [Lz]
def stD (s:LSt):DV:=.pv (.agg (stPV s))
def nmD (a:List UInt8):DV:=.pv (.lit (.string (bsO a)))
def rsD (r:LSt×Int):DV:=.tup [.pv (.agg (stPV r.1)),.pv (.lit (.int .i64 r.2))]
abbrev rowOk (f:FuncId) (s:LSt):Prop:=(actNs.map fun a=>orc 60 f 0 [stD s,nmD a] [])=actNs.map fun a=>some (rsD (actP s a),[])
abbrev ActE:=List UInt8×PV×PV
def eA (e:ActE):List PV:=[.lit (.string (bsO (Prod.fst e))),Prod.fst (Prod.snd e),Prod.snd (Prod.snd e)]
def zA:ActE:=([],.lit .nilFunc,.lit .nilFunc)
def fnA (f:FuncId):PV:=.fn (.func f) [] []
def toA (m:List UInt8):PV:=.fn (.func 282) [] [.box [.lit (.string (bsO m))]]
def actsL:List ActE:=[(aStart,fnA 222,toA mOpen),(aClose,fnA 224,toA mClosed),(aOpen,fnA 225,toA mOpen),(aStop,fnA 226,toA mIdle),(aSat,fnA 227,fnA 228),(aClear,fnA 229,fnA 230),(aLose,fnA 231,fnA 232),(aFind,fnA 234,fnA 235),(aGust,fnA 236,fnA 237),(aCalm,fnA 238,fnA 239),(aReset,fnA 240,toA mIdle)]
end Go.Lens.Tm
end
section
namespace Go.Lens.Tm
open Go.Lens.Tb Go.Proofs
set_option linter.unusedSectionVars false
abbrev xS (m:Mc):List (Nat×MO):=[(11,.box 217 [.pv (.lit (.string (bsO (Prod.fst (Prod.fst m))))),.pv (.lit (.int .i64 (Prod.fst (Prod.snd (Prod.fst m))))),.pv (.lit (.bool (Prod.fst (Prod.snd (Prod.snd (Prod.fst m)))))),.pv (.lit (.bool (Prod.snd (Prod.snd (Prod.snd (Prod.fst m)))))),.pv (.lit (.int .i64 (Prod.fst (Prod.snd m)))),.pv (.lit (.int .i64 0)),.aref 900 (List.length (Prod.snd (Prod.snd m)))]),(900,.arr (List.length (Prod.snd (Prod.snd m))) 2 164 (List.map eP (Prod.snd (Prod.snd m))))]
abbrev xO (m:Mc):List (Nat×MO):=[(900,.arr (List.length (Prod.snd (Prod.snd m))) 2 164 (List.map eP (Prod.snd (Prod.snd m)))),(11,.box 217 [.pv (.lit (.string (bsO (Prod.fst (Prod.fst m))))),.pv (.lit (.int .i64 (Prod.fst (Prod.snd (Prod.fst m))))),.pv (.lit (.bool (Prod.fst (Prod.snd (Prod.snd (Prod.fst m)))))),.pv (.lit (.bool (Prod.snd (Prod.snd (Prod.snd (Prod.fst m)))))),.pv (.lit (.int .i64 (Prod.fst (Prod.snd m)))),.pv (.lit (.int .i64 0)),.aref 900 (List.length (Prod.snd (Prod.snd m)))])]
section
variable {m:Mc} {c:Cmd}
end
def MtI (l:List Cmd) (i k:Nat) (q:Int):Prop:=i+k≤l.length∧matGo 0 i (l.drop i)=matGo q (i+k) (l.drop (i+k))∧((k=0∧q=0)∨(1≤k∧1≤q))∧q≤k
section
variable {l:List Cmd} {i k:Nat} {q:Int}
end
section
variable {l x:List Cmd} {i d:Nat} {a m:Mc}
end
end Go.Lens.Tm
end
section
namespace Go.Lens.Tm
open Go.Lens.Tb Go.Proofs
variable [Lz]
set_option linter.unusedSectionVars false
set_option maxHeartbeats 4000000
set_option maxRecDepth 100000
attribute [local irreducible] TK PK T RG EfR Body CG
end Go.Lens.Tm
end
section
namespace Go.Lens.Tm
open Go.Lens.Tb Go.Proofs
variable [Lz]
set_option linter.unusedSectionVars false
set_option maxHeartbeats 4000000
set_option maxRecDepth 100000
attribute [local irreducible] TK PK T RG EfR Body CG
end Go.Lens.Tm
end
section
namespace Go.Lens.Tm
open Go.Lens.Tb Go.Proofs
set_option linter.unusedSectionVars false
section
variable {m a:Mc} {c:Cmd} {u:List Cmd} {i:Nat}
end
def runA (s:LSt) (t:Int):Int:=firstF [chkSt s,withinF t 0 999999999]
section
variable {s:LSt} {t:Int} {l:List Cmd}
end
end Go.Lens.Tm
end
section
namespace Go.Lens.Tm
open Go.Lens.Tb Go.Proofs
set_option linter.unusedSectionVars false
abbrev loopC (a:List Cmd):List Cmd:=([([114,101,112,101,97,116],[],2)]++a)++[([101,110,100],[],0)]
def sumC:List Cmd→Int
 | []=>0
 | c::l=>c.2.2+sumC l
def foldA:LSt→List Stp→LSt×Bool
 | s,[]=>(s,true)
 | s,p::l=>if (actP s p.2).2≠0 then (s,false) else foldA (actP s p.2).1 l
end Go.Lens.Tm
end
section
namespace Go.Lens.Tm
open Go.Lens.Tb Go.Proofs
variable [Lz]
set_option linter.unusedSectionVars false
set_option maxHeartbeats 4000000
set_option maxRecDepth 100000
attribute [local irreducible] TK PK T RG EfR Body CG
end Go.Lens.Tm
end
section
namespace Go.Lens.Tm
open Go.Lens.Tb Go.Proofs
set_option linter.unusedSectionVars false
variable [Lz]
theorem w61z {l:List Cmd} (h:chkS l=0):CallOk Tryz.prog 61 [vL eC l] (lookM []) (vI (lenP l)) []:=by
 obtain⟨h1,h2,h3,_⟩:=chkS_ok h
 exact w61s h1 h2 h3
abbrev idl:LSt:=([105,100,108,101],0,false,false)
section
variable {l:List Stp} {k:Nat} {a:LSt}
end
end Go.Lens.Tm
end
section
namespace Go.Lens.Tm
open Go.Lens.Tb Go.Proofs
variable [Lz]
set_option linter.unusedSectionVars false
set_option maxRecDepth 100000
attribute [local irreducible] TK PK T RG EfR Body CG
set_option maxHeartbeats 4000000 in
theorem w65 (e:Ev):CallOk Tryz.prog 65 [vL eE [e],vI 1] (lookM []) (vB (shE e)) []:=by
 refine cG qf65 rfl (nB rfl) rfl (E rfl (B.lenL rfl un121) (Cp rfl rfl (fun h1=>?_) (fun h1=>?_)))
 ·exact Rt rfl (leaf (val0:=vB false) (by kernel_rfl) (lb (by first|rw[hq]|(exfalso;simp at h1;done)|exact (hI0.2.resolve_left (by simp at h2;omega)).symm)))
 ·refine l1 (fun (i:Nat)=>[(0,vL eE [e]),(5,vI i)]) (fun _=>[]) (fun i=>i≤1∧(i=0∨shE e=true)) (fun i=>1-i) 0 rfl ?_ (sb rfl rfl rfl) ?_
  · exact⟨by omega,.inl rfl⟩
  intro i hI0
  refine E rfl (B.lenL rfl un121) (Cp rfl rfl (fun h2=>?_) (fun h2=>?_))
  ·have hge:List.getD [e] i zV=e:=by rw[show i=0 by simp at h2;omega];rfl
   refine E rfl (B.idx (z:=zV) (i:=i) rfl rfl un121 sz119 (fun _=>rfl) rfl (by first|omega|(simp only[List.length_cons,List.length_nil] at *;omega))) (E rfl (B.lenB (a:=(List.getD [e] i zV).2.1) rfl un9) (Eg rfl rfl (fun hc=>B.move rfl) rfl (Eg rfl rfl (fun hc=>B.move rfl) rfl (Eg rfl rfl (fun hc=>B.idx (z:=zV) (i:=i) (ev1_gd rfl hc) (ev1_gd rfl hc) un121 sz119 (fun _=>rfl) rfl (by first|omega|(simp only[List.length_cons,List.length_nil] at *;omega))) rfl (Eg rfl rfl (fun hc=>B.fadP (ev1_gd rfl hc) fa119_2 rfl) rfl (Eg rfl rfl (fun hc=>B.loadP (ev1_gd rfl hc) ag73 sz73) rfl (Eg rfl rfl (fun hc=>B.lenL (ev1_gd rfl hc) un73) rfl (Eg rfl rfl (fun hc=>B.gtr (ev1_gd rfl hc) rfl) rfl (E rfl (B.pick rfl rfl rfl rfl (gdB rfl) (pick_or _)) (Eg rfl rfl (fun hc=>B.move rfl) rfl (Eg rfl rfl (fun hc=>B.move rfl) rfl (Eg rfl rfl (fun hc=>B.idx (z:=zV) (i:=i) (ev1_gd rfl hc) (ev1_gd rfl hc) un121 sz119 (fun _=>rfl) rfl (by first|omega|(simp only[List.length_cons,List.length_nil] at *;omega))) rfl (Eg rfl rfl (fun hc=>B.fadP (ev1_gd rfl hc) fa119_3 rfl) rfl ?_)))))))))))))
   refine Eg rfl rfl (fun hc=>B.loadP (ev1_gd rfl hc) ag22 sz22) rfl (Eg rfl rfl (fun hc=>B.lenL (ev1_gd rfl hc) un22) rfl (Eg rfl rfl (fun hc=>B.gtr (ev1_gd rfl hc) rfl) rfl (E rfl (B.pick rfl rfl rfl rfl (gdB rfl) (pick_or _)) (Eg rfl rfl (fun hc=>B.move rfl) rfl (Eg rfl rfl (fun hc=>B.move rfl) rfl (Eg rfl rfl (fun hc=>B.idx (z:=zV) (i:=i) (ev1_gd rfl hc) (ev1_gd rfl hc) un121 sz119 (fun _=>rfl) rfl (by first|omega|(simp only[List.length_cons,List.length_nil] at *;omega))) rfl (Eg rfl rfl (fun hc=>B.fadP (ev1_gd rfl hc) fa119_4 rfl) rfl (Eg rfl rfl (fun hc=>B.loadP (ev1_gd rfl hc) ag9 sz9) rfl (Eg rfl rfl (fun hc=>B.lenB (a:=(List.getD [e] i zV).2.2.2.2) (ev1_gd rfl hc) un9) rfl (Eg rfl rfl (fun hc=>B.gtr (ev1_gd rfl hc) rfl) rfl (E rfl (B.pick rfl rfl rfl rfl (gdB rfl) (pick_or _)) (Cb rfl rfl (fun h3=>?_) (fun h3=>?_)))))))))))))
   ·rw[hge] at h3
    have hq:=sh_c h3
    exact Rt rfl (leaf (val0:=vB false) (by kernel_rfl) (lb (by first|rw[hq]|(exfalso;simp at h1;done)|exact (hI0.2.resolve_left (by simp at h2;omega)).symm)))
   ·refine l1 (fun (k:Nat)=>[(0,vL eE [e]),(5,vI i),(6,vI k)]) (fun _=>[]) (fun k=>k≤List.length (List.getD [e] i zV).2.2.1∧∀ j,j<k→¬60<((List.length (List.getD (List.getD [e] i zV).2.2.1 j []):Nat):Int)) (fun k=>List.length (List.getD [e] i zV).2.2.1-k) 0 rfl ?_ (sb rfl rfl rfl) ?_
    · exact⟨Nat.zero_le _,fun j hj=>by omega⟩
    intro k hI1
    have h6n:=sh_6 h3
    refine E rfl (B.idx (z:=zV) (i:=i) rfl rfl un121 sz119 (fun _=>rfl) rfl (by first|omega|(simp only[List.length_cons,List.length_nil] at *;omega))) (E rfl (B.lenL rfl un73) (Cp rfl rfl (fun h4=>?_) (fun h4=>?_)))
    ·refine E rfl (B.idx (z:=zV) (i:=i) rfl rfl un121 sz119 (fun _=>rfl) rfl (by first|omega|(simp only[List.length_cons,List.length_nil] at *;omega))) (E rfl (B.idx (z:=[]) (i:=k) rfl rfl un73 sz9 (fun _=>rfl) rfl (by first|omega|(simp only[List.length_cons,List.length_nil] at *;omega))) (E rfl (B.lenB (a:=(List.getD (List.getD [e] i zV).2.2.1 k [])) rfl un9) (Cp rfl rfl (fun h5=>?_) (fun h5=>?_))))
     ·rw[hge] at h4 h5
      have hq:=sh_n (by omega) h5
      exact Rt rfl (leaf (val0:=vB false) (by kernel_rfl) (lb (by first|rw[hq]|(exfalso;simp at h1;done)|exact (hI0.2.resolve_left (by simp at h2;omega)).symm)))
     ·refine E rfl (B.add rfl rfl (by unfold R64;omega)) (pk rfl (L1 (k+1) ?_ ?_ (sb rfl rfl rfl)))
      · (refine⟨by omega,fun j hj=>?_⟩;rcases Nat.lt_succ_iff_lt_or_eq.1 hj with h|h;exact hI1.2 j h;subst h;assumption)
      · omega
    ·refine E rfl (B.idx (z:=zV) (i:=i) rfl rfl un121 sz119 (fun _=>rfl) rfl (by first|omega|(simp only[List.length_cons,List.length_nil] at *;omega))) (E rfl (B.seqB (a:=(List.getD [e] i zV).2.1) (b:=[114,117,110]) rfl rfl) (Eg rfl rfl (fun hc=>B.move rfl) rfl (Eg rfl rfl (fun hc=>B.move rfl) rfl (Eg rfl rfl (fun hc=>B.idx (z:=zV) (i:=i) (ev1_gd rfl hc) (ev1_gd rfl hc) un121 sz119 (fun _=>rfl) rfl (by first|omega|(simp only[List.length_cons,List.length_nil] at *;omega))) rfl (Eg rfl rfl (fun hc=>B.loadA (ds:=[pI (List.getD [e] i zV).1,pS (bsO (List.getD [e] i zV).2.1),pL eN (List.getD [e] i zV).2.2.1,pL eI (List.getD [e] i zV).2.2.2.1,pS (bsO (List.getD [e] i zV).2.2.2.2)]) (ev1_gd rfl hc) ag119 sz119 (nB rfl) rfl) rfl (Eg rfl rfl (fun hc=>B.call (w140 (List.getD [e] i zV) (by have:=sh_t h3;omega)) rfl (ds1 (ev1_gd rfl hc)) rfl) rfl (Eg rfl rfl (fun hc=>B.eql (ev1_gd rfl hc) rfl) rfl (E rfl (B.pick rfl rfl rfl (gdB rfl) rfl (pick_and _)) (Cb rfl rfl (fun h6=>?_) (fun h6=>?_))))))))))
     ·refine E rfl (B.idx (z:=zV) (i:=i) rfl rfl un121 sz119 (fun _=>rfl) rfl (by first|omega|(simp only[List.length_cons,List.length_nil] at *;omega))) (C rfl (w58 (List.getD [e] i zV).2.2.2.2 (by have:=sh_t h3;omega)) rfl rfl rfl (C rfl (w61z (l:=(parScr cmdR (List.getD [e] i zV).2.2.2.2).1) (sh_k h6)) rfl rfl rfl (Cp rfl rfl (fun h7=>?_) (fun h7=>?_))))
      ·rw[hge] at h6 h7
       have hq:=sh_r h6 h7
       exact Rt rfl (leaf (val0:=vB false) (by kernel_rfl) (lb (by first|rw[hq]|(exfalso;simp at h1;done)|exact (hI0.2.resolve_left (by simp at h2;omega)).symm)))
      ·refine E rfl (B.add rfl rfl (by unfold R64;omega)) (pk rfl (L1 (i+1) ?_ ?_ (sb rfl rfl rfl)))
       · (refine⟨by simp at h2;omega,.inr ?_⟩;rw[hge] at hI1 h3 h4 h6;first|exact sh_y1 h3 (fun j hj=>hI1.2 j (by omega)) h6|(rw[hge] at h7;exact sh_y2 h3 (fun j hj=>hI1.2 j (by omega)) h6 h7))
       · (simp at h2;omega)
     ·refine E rfl (B.add rfl rfl (by unfold R64;omega)) (pk rfl (L1 (i+1) ?_ ?_ (sb rfl rfl rfl)))
      · (refine⟨by simp at h2;omega,.inr ?_⟩;rw[hge] at hI1 h3 h4 h6;first|exact sh_y1 h3 (fun j hj=>hI1.2 j (by omega)) h6|(rw[hge] at h7;exact sh_y2 h3 (fun j hj=>hI1.2 j (by omega)) h6 h7))
      · (simp at h2;omega)
  ·exact Rt rfl (leaf (val0:=vB true) (by kernel_rfl) (lb (by first|rw[hq]|(exfalso;simp at h1;done)|exact (hI0.2.resolve_left (by simp at h2;omega)).symm)))
end Go.Lens.Tm
end
section
namespace Go.Lens.Tm
open Go.Lens.Tb Go.Proofs
set_option linter.unusedSectionVars false
variable [Lz]
theorem sg_parts {l:List UInt8} (h:sgR l=0):l=txR l++35::sumS (txR l):=by
 unfold sgR at h
 split at h
 ·cases h
 split at h
 ·cases h
 split at h
 ·cases h
 split at h
 ·cases h
 rename_i h0 h1 h2 h3
 have h4:=Decidable.not_not.1 h3
 have hv:l.getD (l.length-8) 0=35:=by
  have hb2:(((l.getD (l.length-8) 0).toNat:Nat):Int)=35:=Decidable.not_not.1 h1
  apply UInt8.toNat_inj.1
  show (l.getD (l.length-8) 0).toNat=35
  omega
 have e:=List.drop_eq_getElem_cons (l:=l) (i:=l.length-8) (by omega)
 rw[List.getD_eq_getElem?_getD,List.getElem?_eq_getElem (by omega),Option.getD_some] at hv
 rw[hv,h4] at e
 rw[←e]
 exact (List.take_append_drop _ _).symm
theorem rec_line {l:List UInt8} {k:Int} (h:(lnP l k).2=0):recE (lnP l k).1=l++[10]:=by
 unfold lnP at h ⊢
 by_cases hs:sgR l≠0
 ·rw[if_pos hs] at h;exact absurd h hs
 rw[if_neg hs] at h ⊢
 have hp:evP (txR l)=true:=by
  cases hp:evP (txR l)
  ·rw[hp] at h;cases h
  ·rfl
 have hp2:=hp
 unfold evP at hp2
 rw[Bool.and_eq_true,Bool.and_eq_true] at hp2
 show recE (evE (txR l))=_
 unfold recE
 rw[ev_body hp2.1 hp2.2.1]
 have e:=sg_parts (Decidable.not_not.1 hs)
 rw[show (txR l++[35])++sumS (txR l)=l by rw[List.append_assoc];exact e.symm]
theorem rc_log:∀ (n:Nat) (q:List UInt8) (out:List Ev) (a:Int),(rcG n q out a).2.2=0→logE (rcG n q out a).1=logE out++q
 | 0,q,out,a,h=>by
  rw[rcG] at h ⊢
  by_cases hq:q=[]
  ·rw[hq,List.append_nil]
  ·rw[if_neg hq] at h;cases h
 | n+1,q,out,a,h=>by
  rw[rcG] at h ⊢
  by_cases hq:q=[]
  ·rw[if_pos hq,hq,List.append_nil]
  rw[if_neg hq] at h ⊢
  by_cases hz:Lib.indexByte q 10<0
  ·rw[if_pos hz] at h;cases h
  rw[if_neg hz] at h ⊢
  by_cases hc:(lnP (q.take (Lib.indexByte q 10).toNat) ((out.length:Int)+1)).2≠0
  ·rw[if_pos hc] at h;exact absurd h hc
  rw[if_neg hc] at h ⊢
  rw[rc_log n _ _ _ h]
  have e:=ix_split (s:=q) (c:=10) (m:=(Lib.indexByte q 10).toNat) (by omega)
  have e2:logE (out++[(lnP (q.take (Lib.indexByte q 10).toNat) ((out.length:Int)+1)).1])=logE out++recE (lnP (q.take (Lib.indexByte q 10).toNat) ((out.length:Int)+1)).1:=by
   unfold logE;rw[List.flatMap_append];simp
  rw[e2,rec_line (Decidable.not_not.1 hc),List.append_assoc,List.append_assoc]
  congr 1
  exact e.symm
theorem rcV_log {s:List UInt8} (h:(rcV s).2.2=0):logE (rcV s).1=s:=by
 unfold rcV at h ⊢
 by_cases hl:1000000<s.length
 ·rw[if_pos hl] at h;cases h
 rw[if_neg hl] at h ⊢
 rw[rc_log _ _ _ _ h];rfl
end Go.Lens.Tm
end
section
namespace Go.Lens.Tm
open Go.Lens.Tb Go.Proofs
set_option linter.unusedSectionVars false
variable [Lz]
theorem ln_ok {l:List UInt8} {k:Int} (h:(lnP l k).2=0):chkE (lnP l k).1=0∧(lnP l k).1.2.2.1.length≤10∧(lnP l k).1.2.2.2.1.length≤10∧(lnP l k).1.2.2.2.2.length≤l.length∧(lnP l k).1.1=k:=by
 unfold lnP at h ⊢
 by_cases hs:sgR l≠0
 ·rw[if_pos hs] at h;exact absurd h hs
 rw[if_neg hs] at h ⊢
 have hp:evP (txR l)=true:=by
  cases hp:evP (txR l)
  ·rw[hp] at h;cases h
  ·rfl
 have hk:(evE (txR l)).1=k:=by
  rw[hp] at h
  by_cases hk:(evE (txR l)).1=k
  ·exact hk
  ·rw[decide_eq_true hk] at h;cases h
 unfold evP at hp
 rw[Bool.and_eq_true,Bool.and_eq_true] at hp
 have h2:=evE_len (txR l)
 have h3:(txR l).length≤l.length:=by unfold txR;rw[List.length_take];omega
 exact⟨of_decide_eq_true hp.2.2,h2.1,h2.2.1,Nat.le_trans h2.2.2 h3,hk⟩
structure OkL (N:Nat) (e:Ev):Prop where
 c:chkE e=0
 n:e.2.2.1.length≤10
 v:e.2.2.2.1.length≤10
 t:e.2.2.2.2.length≤N
theorem rc_all (N:Nat):∀ (n:Nat) (q:List UInt8) (out:List Ev) (a:Int),q.length≤N→(∀ e∈out,OkL N e)→∀ e∈(rcG n q out a).1,OkL N e
 | 0,q,out,a,_,h=>by rw[rcG];exact h
 | n+1,q,out,a,hq,h=>by
  rw[rcG]
  split
  ·exact h
  split
  ·exact h
  split
  ·exact h
  ·rename_i h3
   refine rc_all N n _ _ _ (by rw[List.length_drop];omega) ?_
   intro e he
   rcases List.mem_append.1 he with he|he
   ·exact h e he
   ·have h4:=ln_ok (Decidable.not_not.1 h3)
    have h5:(q.take (Lib.indexByte q 10).toNat).length≤q.length:=by rw[List.length_take];omega
    rw[List.mem_singleton] at he
    subst he
    exact⟨h4.1,h4.2.1,h4.2.2.1,by omega⟩
theorem rcV_all (s:List UInt8):∀ e∈(rcV s).1,OkL s.length e:=by
 unfold rcV
 split
 ·intro e he;cases he
 ·exact rc_all _ _ _ _ _ (Nat.le_refl _) fun e he=>by cases he
theorem nl_early {a:Bool} {s:List UInt8} (h:(bif (!a) then true else (decide (1500<((List.length s:Nat):Int))))=false):a=true∧s.length≤1500:=by
 cases a
 ·cases h
 ·have:=of_decide_eq_false h;exact⟨rfl,by omega⟩
section
variable {s:List UInt8} {e:Ev} (hl:s.length≤1500) (hT:e.2.2.2.2.length≤300)
include hl hT
theorem ap_1 (h:apC s e=0):apV s e=(s++recE e,0):=by
 refine ap_yes (by simpa using h) ?_
 have:=rec_len (okE_of (ap_ok h)) (by omega)
 rw[List.length_append];omega
theorem ap_j1 (h:apC s e=0):(apV s e).1=logE ((rcV s).1++[e]):=by
 rw[ap_1 hl hT h]
 unfold logE
 rw[List.flatMap_append]
 have:=rcV_log (first3c0 h).1
 unfold logE at this
 rw[this];simp
theorem ap_c:(apV s e).2=apC s e:=by
 by_cases h:apC s e=0
 ·rw[ap_1 hl hT h,h]
 ·rw[ap_no h]
end
end Go.Lens.Tm
end
section
namespace Go.Lens.Tm
open Go.Lens.Tb Go.Proofs
variable [Lz]
set_option linter.unusedSectionVars false
set_option maxRecDepth 100000
attribute [local irreducible] TK PK T RG EfR Body CG
set_option maxHeartbeats 4000000 in
theorem w11 (ha:CallOk Tryz.prog 19 [] (lookM []) (.pv (.lit (.bool true))) []) (hp:PowLaid) (he:ErrLaid) (hm:OrcOk Tryz.prog (mergeO 121)) (hj:JoinOk) (hj2:Join2Ok) (hjw:JoinW) (e:Ev) (s:List UInt8):CallOk Tryz.prog 11 [.pv (.agg [pI e.1,pS (bsO e.2.1),pL eN e.2.2.1,pL eI e.2.2.2.1,pS (bsO e.2.2.2.2)]),vS (bsO s)] (lookM []) (vB true) []:=by
 refine cG qf11 rfl (nB rfl) rfl (E rfl (B.runZ (val:=.pv (.slice (List.map eE [e]))) rfl (fun l=>Frz.arr l _ _ _ _ _) rfl) (C rfl (w65 e) rfl rfl rfl (Eg rfl rfl (fun hc=>B.move rfl) rfl (Eg rfl rfl (fun hc=>B.lenB (a:=s) (ev1_gd rfl hc) un9) rfl (Eg rfl rfl (fun hc=>B.gtr (ev1_gd rfl hc) rfl) rfl (E rfl (B.pick rfl rfl rfl rfl (gdB rfl) (pick_or _)) (Cb rfl rfl (fun h1=>?_) (fun h1=>?_))))))))
 ·exact C rfl (ha) rfl rfl rfl (Rt rfl (leaf rfl rfl))
 ·obtain⟨hse,hl15⟩:=nl_early h1
  obtain⟨hb1,hb2,hb3,hb4,hb5⟩:=shE_bd hse
  have hal:=rcV_all s
  have hrl:=rcV_len s
  refine C rfl (w66 hp he hm hj hj2 hjw s e (by omega) (by omega) (by omega) (by omega)) rfl rfl rfl (C rfl (w67 hp he hm hj hj2 hjw s (by omega)) rfl rfl rfl (C rfl (w68 s (by omega)) rfl rfl rfl (C rfl (w69 e (by omega) (by omega) (by omega)) rfl rfl rfl (E rfl (B.lenL rfl un121) (E rfl (B.add rfl rfl (by unfold R64;omega)) (C rfl (w28 (decide (e.1≠(((List.length (rcV s).1:Nat):Int)+1))) 11) rfl rfl rfl (E rfl (B.runZ (val:=.pv (.slice (List.map eI [(rcV s).2.2,(chkE e),(whenF (decide (e.1≠(((List.length (rcV s).1:Nat):Int)+1))) 11)]))) rfl (fun l=>Frz.arr l _ _ _ _ _) rfl) (C rfl (w25 [(rcV s).2.2,(chkE e),(whenF (decide (e.1≠(((List.length (rcV s).1:Nat):Int)+1))) 11)] (nB rfl)) rfl rfl rfl (Dr rfl (by kernel_rfl) ?_)))))))))
  refine tk 8 rfl ?_
  refine tn ⟨[(2,.bref 3 0),(5,vS (bsO (apV s e).1)),(6,vI (apV s e).2),(7,vL eE (rcV s).1),(8,vI (rcV s).2.1),(9,vI (rcV s).2.2),(10,vL eE (rcV s).1),(11,vI (rcV s).2.1),(12,vI (rcV s).2.2),(13,vI (firstF [(rcV s).2.2,(chkE e),(whenF (decide (e.1≠(((List.length (rcV s).1:Nat):Int)+1))) 11)])),(14,vS (bsO []))],[(3,.box 119 [vI e.1,vS (bsO e.2.1),vL eN e.2.2.1,vL eI e.2.2.2.1,vS (bsO e.2.2.2.2)])]⟩ rfl rfl rfl ?_
  rw[show (firstF [(rcV s).2.2,(chkE e),(whenF (decide (e.1≠(((List.length (rcV s).1:Nat):Int)+1))) 11)])=apC s e from rfl]
  refine kc (Cj [(5,vS (bsO (apV s e).1)),(6,vI (apV s e).2),(7,vL eE (rcV s).1),(8,vI (rcV s).2.1),(9,vI (rcV s).2.2),(10,vL eE (rcV s).1),(11,vI (rcV s).2.1),(12,vI (rcV s).2.2),(13,vI (apC s e)),(14,vS (bsO (apV s e).1))] [] rfl rfl rfl (fun h2=>?_) (fun h2=>?_) ?_)
  ·replace h2:=of_decide_eq_true h2
   have oke:=okE_of (ap_ok h2)
   have hok:∀ f∈(rcV s).1++[e],OkE f:=by intro f hf;rcases List.mem_append.1 hf with hf|hf;exact okE_of (hal f hf).c;rw[List.mem_singleton] at hf;subst hf;exact oke
   have hlt:∀ f∈(rcV s).1++[e],f.2.2.2.2.length≤4000:=by intro f hf;rcases List.mem_append.1 hf with hf|hf;have:=(hal f hf).t;omega;rw[List.mem_singleton] at hf;subst hf;omega
   refine E rfl (B.run rfl) (E rfl (B.append (enc:=eE) (l:=[]) (r:=(rcV s).1) rfl rfl rfl un121 in119 rfl (fun _=>rfl) by119 (by first|omega|(simp only[List.length_append,List.length_cons,List.length_nil];omega))) (E rfl (B.runZ (val:=.pv (.slice (List.map eE [e]))) rfl (fun l=>Frz.arr l _ _ _ _ _) rfl) (E rfl (B.appendZ rfl rfl rfl un121 in119 rfl (fun _=>rfl) by119 (by first|omega|(simp only[List.length_append,List.length_cons,List.length_nil];omega))) (C rfl (w70 ((rcV s).1++[e]) hok hlt (by simp only[List.length_append,List.length_cons,List.length_nil];omega)) rfl rfl rfl (Dr rfl (by kernel_rfl) (pk rfl ?_))))))
   show Sub _ _ _
   first|rw[ap_j1 hl15 hb4 h2]|rw[ap_no h2]
   exact sb rfl rfl rfl
  ·replace h2:=of_decide_eq_false h2
   refine pk rfl ?_
   show Sub _ _ _
   first|rw[ap_j1 hl15 hb4 h2]|rw[ap_no h2]
   exact sb rfl rfl rfl
  ·refine tk 10 rfl ?_
   refine tn ⟨[(5,vS (bsO (apV s e).1)),(6,vI (apV s e).2),(7,vL eE (rcV s).1),(8,vI (rcV s).2.1),(9,vI (rcV s).2.2),(10,vL eE (rcV s).1),(11,vI (rcV s).2.1),(12,vI (rcV s).2.2),(13,vI (apC s e)),(14,vS (bsO (apV s e).1))],[]⟩ rfl rfl rfl ?_
   rw[ap_c hl15 hb4]
   refine kc (Eg rfl rfl (fun hc=>B.move rfl) rfl (Eg rfl rfl (fun hc=>B.move rfl) rfl (Eg rfl rfl (fun hc=>B.seqB (a:=(apV s e).1) (b:=(apV s e).1) (ev1_gd rfl hc) (ev1_gd rfl hc)) rfl (E rfl (B.pick rfl rfl rfl (gdB rfl) rfl (pick_and _)) (Eg rfl rfl (fun hc=>B.move rfl) rfl (Eg rfl rfl (fun hc=>B.move rfl) rfl (Eg rfl rfl (fun hc=>B.call (w71 (rcV s).1 (rcV s).1 (by omega) (fun f hf=>by have:=(hal f hf).n;omega) (fun f hf=>by have:=(hal f hf).v;omega)) rfl (ds2 (ev1_gd rfl hc) (ev1_gd rfl hc)) rfl) rfl (E rfl (B.pick rfl rfl rfl (gdB rfl) rfl (pick_and _)) (Eg rfl rfl (fun hc=>B.move rfl) rfl (Eg rfl rfl (fun hc=>B.move rfl) rfl (Eg rfl rfl (fun hc=>B.eql (ev1_gd rfl hc) (ev1_gd rfl hc)) rfl (E rfl (B.pick rfl rfl rfl (gdB rfl) rfl (pick_and _)) (Eg rfl rfl (fun hc=>B.move rfl) rfl ?_)))))))))))))
   refine Eg rfl rfl (fun hc=>B.move rfl) rfl (Eg rfl rfl (fun hc=>B.eql (ev1_gd rfl hc) (ev1_gd rfl hc)) rfl (E rfl (B.pick rfl rfl rfl (gdB rfl) rfl (pick_and _)) (Eg rfl rfl (fun hc=>B.call (ha) rfl rfl rfl) rfl (E rfl (B.pick rfl rfl rfl (gdB rfl) rfl (pick_and _)) ?_))))
   exact Rt rfl (leaf (val0:=vB (bif (bif (bif (bif (bif (decide ((apC s e)=(apC s e))) then (decide ((apV s e).1=(apV s e).1)) else false) then (decide ((rcV s).1=(rcV s).1)) else false) then (decide ((rcV s).2.1=(rcV s).2.1)) else false) then (decide ((rcV s).2.2=(rcV s).2.2)) else false) then true else false)) (by kernel_rfl) (lb (by first
          | rfl
          | exact absurd (h2:_=true) (by simp)
          | simp)))
end Go.Lens.Tm
end
section
namespace Go.Lens.Tm
open Go.Lens.Tb Go.Proofs Go.RowKit
set_option linter.unusedSectionVars false
variable [Lz]
theorem joinW_ok:JoinW:=by
 intro ws hn hw
 refine⟨fun k hk=>?_,fun G w vs M hv=>.inl ?_⟩
 ·simp[DV.refsL,DV.refs] at hk
 obtain⟨v,v2,rfl,h1,h2⟩:=hv.two
 have e2:=(RelDV_lit_eq h2).1
 subst e2
 simp only[RelDV,RelPV] at h1
 obtain⟨a,cap,rfl,hcap,hes⟩:=h1
 refine⟨Tryz.call169 _ _,?_⟩
 have fin:∀ w':World,Below w.heap.size w w'→∃ G',Stepped G w (lookM []) (vS (bsO (joinF ws))) [] G' w' (.string (bsO (joinF ws))):=fun w' hB=>
  ⟨G,stepped_grow M.ctx hB.os hB.tape hB.output hB.size (fun k hk=>hB.block k hk) (RelDV_lit rfl) (by simp[DV.refs])⟩
 by_cases h0:ws=[]
 ·subst h0
  refine Calls.mono (Tryz.strings_Join_none a cap (bsO [32]) w) ?_
  rintro e w' ⟨he,hw'⟩
  exact⟨_,he,fin w' (hw'▸Below.refl _ _)⟩
 ·rcases hes with hes|⟨b,off,esz,rfl,hel⟩
  ·exact absurd (List.map_eq_nil_iff.1 hes) h0
  have hcell:∀ (j:Nat) (x:ByteArray),(ws.map bsO)[j]? =some x→w.cell? ⟨b,off+j,none⟩=some (.string x):=by
   intro j x hj
   rw[List.getElem?_map] at hj
   obtain⟨y,hy,rfl⟩:=Option.map_eq_some_iff.1 hj
   exact M.readable.1 _ _ _ (elems_cells ws off hel j y hy)
  have hd:(ws.map bsO).map (·.data.toList)=ws:=by
   rw[List.map_map]
   conv=>rhs;rw[←List.map_id ws]
   rfl
  have hbk:b<w.heap.size:=by
   obtain⟨y,r,rfl⟩:=List.exists_cons_of_ne_nil h0
   have:=hcell 0 (bsO y) rfl
   unfold World.cell? at this
   rcases Nat.lt_or_ge b w.heap.size with h|h
   ·exact h
   ·have hnone:w.heap[b]? =none:=Array.getElem?_eq_none h
    simp[hnone] at this
  have hjl:=join_len ws 1000000 hw
  have hc:=Tryz.strings_Join b off cap (ws.map bsO) (bsO [32]) w hcell hbk (by rw[List.length_map];omega) (by rw[List.length_map] at hcap ⊢;exact hcap) (by
   rw[hd]
   have:Lib.join ws (bsO [32]).data.toList=joinF ws:=join_lib ws
   rw[this]
   have:ws.length*(1000000+1)≤1000*(1000000+1):=Nat.mul_le_mul_right _ hn
   omega)
  rw[hd] at hc
  have hj:Lib.join ws (bsO [32]).data.toList=joinF ws:=join_lib ws
  rw[hj,List.length_map] at hc
  rw[List.length_map]
  refine Calls.mono hc ?_
  rintro e w' ⟨he,hB⟩
  exact⟨_,he,fin w' hB⟩
end Go.Lens.Tm
end
section
namespace Go.Lens.Tb
open Go.Proofs Go.Proofs.YtomghboflcafbaaGreatDoor Go.RowKit Go.ChangeShapes
set_option linter.unusedSectionVars false
set_option maxRecDepth 100000
theorem gPow:Tryz.prog.globalNamed "internal/strconv.uint64pow10" =some 3:=by kernel_rfl
theorem tPow:(Tryz.prog.globals[3]?).map (·.type)=some 434:=by kernel_rfl
theorem plainLaid:(Rows.nightLogsRow.laid.all fun x=>x.2.handleName?.isNone)=true:=by kernel_rfl
theorem powDatum:(Rows.laid_internal_strconv_uint64pow10:DataW Unit)=Lib.tabData .u64 Lib.pow10Tab:=by kernel_rfl
theorem pow_of {W:World} (h:laidMetH Tryz.prog Rows.nightLogsRow.laid W):∃ T fr,W.heap[3]? =some (.cells (Lib.pow10Tab.map fun z=>Value.int .u64 z).toArray T fr):=by
  rw[MakeChecks.laidMetH_plain _ _ _ plainLaid] at h
  obtain⟨ps,⟨g0,t0,cs0,f0,p0,q0,_,_,_,_,⟨g1,t1,cs1,f1,p1,q1,_,_,_,_,⟨g2,t2,cs2,f2,p2,q2,hg,ht,hv,hd,_,_⟩,_⟩,_⟩,_,_⟩:=h
  obtain rfl:=Option.some.inj (gPow.symm.trans hg)
  obtain rfl:=Option.some.inj (tPow.symm.trans ht)
  have hd':DataW.trod (fun _=>()) Tryz.prog W 0 (fun _=>true) false f2 434 cs2.toList=some (Rows.laid_internal_strconv_uint64pow10,p2):=hd
  rw[powDatum] at hd'
  have hc:=Lib.cells_of_tab Tryz.underlying434 Tryz.underlying406 (by kernel_rfl) (by kernel_rfl) hd'
  have hv':(Tryz.prog.globalNamed "internal/strconv.uint64pow10").bind (fun g=>match W.heap[g]? with|some (.cells cs _ _)=>some cs|_=>none)=some cs2:=hv
  rw[gPow] at hv'
  simp only[Option.bind_some] at hv'
  split at hv'
  · rename_i cs T fr hb
    cases hv'
    refine⟨T,fr,?_⟩
    rw[hb,←hc,Array.toArray_toList]
  · cases hv'
theorem gSyn:Tryz.prog.globalNamed "strconv.ErrSyntax" =some 4:=by kernel_rfl
theorem gRng:Tryz.prog.globalNamed "strconv.ErrRange" =some 5:=by kernel_rfl
theorem tSyn:(Tryz.prog.globals[4]?).map (·.type)=some 273:=by kernel_rfl
theorem tRng:(Tryz.prog.globals[5]?).map (·.type)=some 273:=by kernel_rfl
theorem star: "*" ++ "errors.errorString" = "*errors.errorString" :=by decide
theorem row445 (u:TypeId) (h:Tryz.prog.typeName? 3 u=some "*errors.errorString"):u=445:=
  typeName_ptr_named (nm:= "errors.errorString") (by rw[star];kernel_rfl) (by kernel_rfl) (by decide) u (by rw[star];exact h)
theorem err_of {W:World} (h:laidMetH Tryz.prog Rows.nightLogsRow.laid W):(∃ tp p,W.var? Tryz.prog "strconv.ErrSyntax" =some #[.iface tp p])∧∃ tp p,W.var? Tryz.prog "strconv.ErrRange" =some #[.iface tp p]:=by
  rw[MakeChecks.laidMetH_plain _ _ _ plainLaid] at h
  have h4:=h.tail.tail.tail.tail
  obtain⟨a,_,h1,_⟩:=laid_sentinel h4 gRng tRng Tryz.underlying273 row445 Tryz.underlying445 Tryz.underlying447 rfl rfl Tryz.underlying9 (show Tryz.prog.cellsOf 447=1 by kernel_rfl) (show Tryz.prog.cellsOf 9=1 by kernel_rfl)
  obtain⟨b,_,h2,_⟩:=laid_sentinel h4.tail gSyn tSyn Tryz.underlying273 row445 Tryz.underlying445 Tryz.underlying447 rfl rfl Tryz.underlying9 (show Tryz.prog.cellsOf 447=1 by kernel_rfl) (show Tryz.prog.cellsOf 9=1 by kernel_rfl)
  exact⟨⟨_,_,h2⟩,_,_,h1⟩
@[reducible] def lzOf (W:World):Lz:=⟨fun b=>if b=3∨b=4∨b=5 then W.heap[b]? else none⟩
theorem lzOf_laid (W:World):∀ b o,(lzOf W).L b=some o→W.heap[b]? =some o:=by
  intro b o h
  change (if b=3∨b=4∨b=5 then W.heap[b]? else none)=some o at h
  split at h
  · exact h
  · cases h
theorem powLaid_of {W:World} (h:laidMetH Tryz.prog Rows.nightLogsRow.laid W): @PowLaid (lzOf W):=by
  obtain⟨T,fr,hb⟩:=pow_of h
  exact⟨3,T,fr,gPow,hb⟩
theorem varLaid_of {W:World} {n:String} {g:Nat} (hg:Tryz.prog.globalNamed n=some g) (hb:(lzOf W).L g=W.heap[g]?) (h:∃ tp p,W.var? Tryz.prog n=some #[.iface tp p]): @Go.Lens.Tm.VarLaid (lzOf W) n:=by
  obtain⟨tp,p,hv⟩:=h
  unfold World.var? at hv
  rw[hg] at hv
  simp only[Option.bind_some] at hv
  split at hv
  · rename_i cs T fr hc
    cases hv
    exact⟨g,tp,p,T,fr,hg,hb.trans hc⟩
  · cases hv
theorem errLaid_of {W:World} (h:laidMetH Tryz.prog Rows.nightLogsRow.laid W): @Go.Lens.Tm.ErrLaid (lzOf W):=
  ⟨varLaid_of gSyn rfl (err_of h).1,varLaid_of gRng rfl (err_of h).2⟩
theorem bs_back (s:ByteArray):bsO s.data.toList=s:=rfl
section
variable {H:Type} {enc:TypeId×Value→H} {w:World} {base:Nat} {spare:Nat→Bool} {held:Bool}
theorem read_ints {fuel:Nat} {cs:List Value} {x:DataW H×List MemPlace} (h:DataW.trod enc Tryz.prog w base spare held fuel 22 cs=some x) :
    ∃ (l:List Int) (v:Value),cs=[v]∧RelPV (gh0.rd w) (.slice (l.map eI)) v∧((l=[]∧x.1=.nil)∨∃ es rest,x.1=.slice es rest∧es.length=l.length):=
  read_slice (encE:=eI) (vals:=fun n=>[.int .i64 n]) Tryz.underlying22 (show Tryz.prog.cellsOf 3=1 by kernel_rfl) (by omega)
    (fun n c y hy=>by obtain⟨m,e,_⟩:=DataW.trod_int Tryz.underlying3 hy;exact⟨m,e⟩) (fun _=>rfl) (fun _=>rfl)
    (fun a b off hc=>relCells_lits (vs:=[.int .i64 a]) (by simp[isLit]) hc) h
theorem read_names {fuel:Nat} {cs:List Value} {x:DataW H×List MemPlace} (h:DataW.trod enc Tryz.prog w base spare held fuel 73 cs=some x) :
    ∃ (l:List (List UInt8)) (v:Value),cs=[v]∧RelPV (gh0.rd w) (.slice (l.map Go.Lens.Tm.eN)) v∧((l=[]∧x.1=.nil)∨∃ es rest,x.1=.slice es rest∧es.length=l.length):=
  read_slice (encE:=Go.Lens.Tm.eN) (vals:=fun s:List UInt8=>[.string (bsO s)]) Tryz.underlying73 (show Tryz.prog.cellsOf 9=1 by kernel_rfl) (by omega)
    (fun n c y hy=>by obtain⟨s,e,_⟩:=DataW.trod_string Tryz.underlying9 hy;exact⟨s.data.toList,e⟩) (fun _=>rfl) (fun _=>rfl)
    (fun a b off hc=>relCells_lits (vs:=[.string (bsO a)]) (by simp[isLit]) hc) h
theorem slice_one {R:Rd} {l:List (List PV)} {v:Value} (h:RelPV R (.slice l) v):v.oneCell'=true:=by
  simp only[RelPV] at h
  obtain⟨a,cap,rfl,_⟩:=h
  rfl
theorem read_ev {n:Nat} {c:List Value} {y:DataW H×List MemPlace} (h:DataW.trod enc Tryz.prog w base spare held n 119 c=some y) :
    ∃ (e:Go.Lens.Tm.Ev) (vn vv:Value),c=[.int .i64 e.1,.string (bsO e.2.1),vn,vv,.string (bsO e.2.2.2.2)]∧RelPV (gh0.rd w) (.slice (e.2.2.1.map Go.Lens.Tm.eN)) vn∧RelPV (gh0.rd w) (.slice (e.2.2.2.1.map eI)) vv:=by
  obtain⟨xs,m,rfl,rfl,hl,hx,hf⟩:=DataW.trod_struct Tryz.underlying119 h
  have hl2:c.length=5:=hl.trans (by kernel_rfl)
  have hx2:xs.length=5:=hx
  match c,hl2,xs,hx2,hf with
  | [c0,c1,c2,c3',c4],_,[x0,x1,x2,x3,x4],_,hf=>
    have f0:=hf 0 _ rfl
    have f1:=hf 1 _ rfl
    have f2:=hf 2 _ rfl
    have f3:=hf 3 _ rfl
    have f4:=hf 4 _ rfl
    obtain⟨m0,e0,_⟩:=DataW.trod_int Tryz.underlying3 f0
    obtain⟨s1,e1,_⟩:=DataW.trod_string Tryz.underlying9 f1
    obtain⟨l2,v2,e2,h2,_⟩:=read_names f2
    obtain⟨l3,v3,e3,h3,_⟩:=read_ints f3
    obtain⟨s4,e4,_⟩:=DataW.trod_string Tryz.underlying9 f4
    cases e0;cases e1;cases e2;cases e3;cases e4
    exact⟨(m0,s1.data.toList,l2,l3,s4.data.toList),_,_,rfl,h2,h3⟩
end
end Go.Lens.Tb
end
