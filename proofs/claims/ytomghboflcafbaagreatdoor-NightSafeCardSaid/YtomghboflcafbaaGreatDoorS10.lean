/- Laws of a step by step reckoning of programs, and of the functions of the program that the claims share, without conditions. -/
import Derived.Test.YtomghboflcafbaaGreatDoorS5
import Derived.Test.YtomghboflcafbaaGreatDoorS6
import Derived.Test.YtomghboflcafbaaGreatDoorS7
import Derived.Test.YtomghboflcafbaaGreatDoorS8
import Derived.Test.YtomghboflcafbaaGreatDoorS9
import Derived.Shelf.SlIter.Nil
import Derived.Shelf.SortM.Plain
import Derived.Shelf.SortM.SortNone
import Derived.Ground.GgzProg
import Derived.Ground.SlgmProg
import Derived.Test.YtomghboflcafbaaGreatDoorProg
import Derived.Test.YtomghboflcafbaaGreatDoorS4
import Derived.Test.YtomghboflcafbaaGreatDoorS3
set_option linter.unusedVariables false
set_option linter.unusedSimpArgs false
set_option linter.unusedSectionVars false
section
namespace Go.Lens.Tb
set_option maxRecDepth 1000000
open Go.Proofs
theorem jG {a b:Code} {s s':St} (h:run a s=some (.normal,s')):run (.seq a b) s=run b s':=by
  have e:run (.seq a b) s=(match run a s with
      | some (.normal,s')=>run b s'
      | r=>r):=rfl
  rw[e,h]
theorem join0:run r0 st0=run r1 st1:=(congrArg (fun c=>run c st0) (show r0=.seq (hdC r0) (tlC r0) by kernel_rfl)).trans (jG seg0)
theorem join1:run r1 st1=run r2 st2:=(congrArg (fun c=>run c st1) (show r1=.seq (hdC r1) (tlC r1) by kernel_rfl)).trans (jG seg1)
theorem join2:run r2 st2=run r3 st3:=(congrArg (fun c=>run c st2) (show r2=.seq (hdC r2) (tlC r2) by kernel_rfl)).trans (jG seg2)
theorem join3:run r3 st3=run r4 st4:=(congrArg (fun c=>run c st3) (show r3=.seq (hdC r3) (tlC r3) by kernel_rfl)).trans (jG seg3)
theorem join4:run r4 st4=run r5 st5:=(congrArg (fun c=>run c st4) (show r4=.seq (hdC r4) (tlC r4) by kernel_rfl)).trans (jG seg4)
theorem join5:run r5 st5=run r6 st6:=(congrArg (fun c=>run c st5) (show r5=.seq (hdC r5) (tlC r5) by kernel_rfl)).trans (jG seg5)
theorem join6:run r6 st6=run r7 st7:=(congrArg (fun c=>run c st6) (show r6=.seq (hdC r6) (tlC r6) by kernel_rfl)).trans (jG seg6)
theorem join7:run r7 st7=run r8 st8:=(congrArg (fun c=>run c st7) (show r7=.seq (hdC r7) (tlC r7) by kernel_rfl)).trans (jG seg7)
theorem join8:run r8 st8=run r9 st9:=(congrArg (fun c=>run c st8) (show r8=.seq (hdC r8) (tlC r8) by kernel_rfl)).trans (jG seg8)
theorem join9:run r9 st9=run r10 st10:=(congrArg (fun c=>run c st9) (show r9=.seq (hdC r9) (tlC r9) by kernel_rfl)).trans (jG seg9)
theorem join10:run r10 st10=run r11 st11:=(congrArg (fun c=>run c st10) (show r10=.seq (hdC r10) (tlC r10) by kernel_rfl)).trans (jG seg10)
theorem join11:run r11 st11=run r12 st12:=(congrArg (fun c=>run c st11) (show r11=.seq (hdC r11) (tlC r11) by kernel_rfl)).trans (jG seg11)
theorem join12:run r12 st12=run r13 st13:=(congrArg (fun c=>run c st12) (show r12=.seq (hdC r12) (tlC r12) by kernel_rfl)).trans (jG seg12)
theorem join13:run r13 st13=run r14 st14:=(congrArg (fun c=>run c st13) (show r13=.seq (hdC r13) (tlC r13) by kernel_rfl)).trans (jG seg13)
theorem join14:run r14 st14=run r15 st15:=(congrArg (fun c=>run c st14) (show r14=.seq (hdC r14) (tlC r14) by kernel_rfl)).trans (jG seg14)
theorem join15:run r15 st15=run r16 st16:=(congrArg (fun c=>run c st15) (show r15=.seq (hdC r15) (tlC r15) by kernel_rfl)).trans (jG seg15)
theorem join16:run r16 st16=run r17 st17:=(congrArg (fun c=>run c st16) (show r16=.seq (hdC r16) (tlC r16) by kernel_rfl)).trans (jG seg16)
theorem join17:run r17 st17=run r18 st18:=(congrArg (fun c=>run c st17) (show r17=.seq (hdC r17) (tlC r17) by kernel_rfl)).trans (jG seg17)
theorem join18:run r18 st18=run r19 st19:=(congrArg (fun c=>run c st18) (show r18=.seq (hdC r18) (tlC r18) by kernel_rfl)).trans (jG seg18)
theorem join19:run r19 st19=run r20 st20:=(congrArg (fun c=>run c st19) (show r19=.seq (hdC r19) (tlC r19) by kernel_rfl)).trans (jG seg19)
theorem join20:run r20 st20=run r21 st21:=(congrArg (fun c=>run c st20) (show r20=.seq (hdC r20) (tlC r20) by kernel_rfl)).trans (jG seg20)
theorem last:run r21 st21=some (.ret,st21):=by kernel_rfl
theorem whole:run r0 st0=some (.ret,st21):=(join0.trans (join1.trans (join2.trans (join3.trans (join4.trans (join5.trans (join6.trans (join7.trans (join8.trans (join9.trans (join10.trans (join11.trans (join12.trans (join13.trans (join14.trans (join15.trans (join16.trans (join17.trans (join18.trans (join19.trans (join20.trans last)))))))))))))))))))))
theorem shut:closeX tab fn19 1 [] st21=some (lit (.bool true),[]):=by kernel_rfl
theorem body19:fn19.body=some c19:=by kernel_rfl
theorem all19:xFun (borO bor (orc 60)) tab (drawnX tab) fn19 0 [] []=some (lit (.bool true),[]):=by
  unfold xFun
  simp only[body19]
  have h1:(Nat.ble ([]:List DV).length fn19.n&&(DV.qT []).all (jJ []))=true:=by kernel_rfl
  rw[h1]
  have h2:xCode (borO bor (orc 60)) tab fn19 (maxN [] 0+1) (drawnX tab (borO bor (orc 60)) fn19.n (maxN [] 0+1)) c19 ⟨zipT 0 [],[]⟩=some (.ret,st21):=whole
  simp only[cond_true,h2]
  exact shut
theorem awake_ok [Lz] (h:qH) (hm:kB Tryz.prog (mergeO 121)):q6 Tryz.prog 19 [] (qx []) (lit (.bool true)) []:=by
  obtain⟨fn,h1,h2,h3,h4,h5,h6⟩:=qf19
  haveI:=tab_ok
  have hO:=borO_ok (B:=bor) (orc_ok h hm 60)
  exact xFun_sound hO (fun n nb=>drawnX_ok mixed hO n nb) h1 h2 h3 h4 h5 h6 all19
end Go.Lens.Tb
end
section
namespace Go.Proofs
open Go.Shelf
def Tryz.keys177_ren:Go.Shelf.Ren:=⟨fun|7=>177|10=>250|n=>n,fun|23=>303|26=>9|3=>4|28=>306|0=>0|27=>305|33=>182|4=>4|n=>n,fun|n=>n⟩
theorem Tryz.keys177:Go.Proofs.SlLaysZ.n7 Tryz.prog Tryz.keys177_ren:={
  mixed:=by kernel_rfl
  f7:=⟨Tryz.f177.name,by decide,Tryz.func177.trans (congrArg some (by kernel_rfl))⟩
  f10:=⟨Tryz.f250.name,by decide,Tryz.func250.trans (congrArg some (by kernel_rfl))⟩
  t0:=Tryz.underlying0
  a0:=Tryz.isAgg0
  z0:=Tryz.sizeOf0
  v0:=Tryz.zeroValue0
  t4:=Tryz.underlying4
  a4:=Tryz.isAgg4
  z4:=Tryz.sizeOf4
  v4:=Tryz.zeroValue4
  t23:=Tryz.underlying303
  a23:=Tryz.isAgg303
  z23:=Tryz.sizeOf303
  v23:=Tryz.zeroValue303
  t26:=Tryz.underlying9
  a26:=Tryz.isAgg9
  z26:=Tryz.sizeOf9
  v26:=Tryz.zeroValue9
  t27:=Tryz.underlying305
  a27:=Tryz.isAgg305
  z27:=Tryz.sizeOf305
  v27:=Tryz.zeroValue305
  t28:=Tryz.underlying306
  a28:=Tryz.isAgg306
  z28:=Tryz.sizeOf306
  v28:=Tryz.zeroValue306
  t33:=Tryz.underlying182
  a33:=Tryz.isAgg182
  z33:=Tryz.sizeOf182
  v33:=Tryz.zeroValue182 }
def Tryz.sorted176_ren:Go.Shelf.Ren:=⟨fun|6=>176|8=>248|9=>249|11=>293|13=>295|12=>294|23=>321|24=>322|14=>312|15=>313|16=>314|17=>315|18=>316|19=>317|20=>318|21=>319|22=>320|25=>339|26=>340|27=>341|28=>342|29=>343|30=>344|31=>354|n=>n,fun|26=>9|28=>306|24=>73|0=>0|3=>3|37=>378|48=>394|50=>406|4=>4|40=>399|39=>398|45=>195|5=>5|9=>9|51=>427|55=>431|57=>441|58=>442|33=>182|n=>n,fun|n=>n⟩
theorem Tryz.sorted176:Go.Proofs.SlLaysZ.n6 Tryz.prog Tryz.sorted176_ren:={
  mixed:=by kernel_rfl
  f6:=⟨Tryz.f176.name,by decide,Tryz.func176.trans (congrArg some (by kernel_rfl))⟩
  f8:=⟨Tryz.f248.name,by decide,Tryz.func248.trans (congrArg some (by kernel_rfl))⟩
  f11:=⟨Tryz.f293.name,by decide,Tryz.func293.trans (congrArg some (by kernel_rfl))⟩
  t0:=Tryz.underlying0
  a0:=Tryz.isAgg0
  z0:=Tryz.sizeOf0
  v0:=Tryz.zeroValue0
  t24:=Tryz.underlying73
  a24:=Tryz.isAgg73
  z24:=Tryz.sizeOf73
  v24:=Tryz.zeroValue73
  t26:=Tryz.underlying9
  a26:=Tryz.isAgg9
  z26:=Tryz.sizeOf9
  v26:=Tryz.zeroValue9
  t28:=Tryz.underlying306
  a28:=Tryz.isAgg306
  z28:=Tryz.sizeOf306
  v28:=Tryz.zeroValue306
  i26:=by kernel_rfl }
def Tryz.sort249_ren:Go.Shelf.Ren:=⟨fun|6=>249|8=>295|9=>294|19=>321|20=>322|21=>312|22=>313|23=>314|24=>315|25=>316|26=>317|27=>318|28=>319|29=>320|36=>339|31=>340|32=>341|37=>342|38=>343|39=>344|41=>354|n=>n,fun|27=>73|29=>9|3=>3|32=>378|26=>73|0=>0|44=>394|46=>406|4=>4|36=>399|35=>398|41=>195|5=>5|9=>9|53=>427|57=>431|63=>441|64=>442|n=>n,fun|n=>n⟩
theorem Tryz.sort249:Go.Proofs.SlLaysM.n6 Tryz.prog Tryz.sort249_ren:={
  mixed:=by kernel_rfl
  f6:=⟨Tryz.f249.name,by decide,Tryz.func249.trans (congrArg some (by kernel_rfl))⟩
  f8:=Tryz.func295.trans (congrArg some (by kernel_rfl))
  f9:=⟨Tryz.f294.name,by decide,Tryz.func294.trans (congrArg some (by kernel_rfl))⟩
  f19:=Tryz.func321.trans (congrArg some (by kernel_rfl))
  f20:=Tryz.func322.trans (congrArg some (by kernel_rfl))
  f21:=⟨Tryz.f312.name,by decide,Tryz.func312.trans (congrArg some (by kernel_rfl))⟩
  f22:=⟨Tryz.f313.name,by decide,Tryz.func313.trans (congrArg some (by kernel_rfl))⟩
  f23:=⟨Tryz.f314.name,by decide,Tryz.func314.trans (congrArg some (by kernel_rfl))⟩
  f24:=⟨Tryz.f315.name,by decide,Tryz.func315.trans (congrArg some (by kernel_rfl))⟩
  f25:=⟨Tryz.f316.name,by decide,Tryz.func316.trans (congrArg some (by kernel_rfl))⟩
  f26:=⟨Tryz.f317.name,by decide,Tryz.func317.trans (congrArg some (by kernel_rfl))⟩
  f27:=⟨Tryz.f318.name,by decide,Tryz.func318.trans (congrArg some (by kernel_rfl))⟩
  f28:=⟨Tryz.f319.name,by decide,Tryz.func319.trans (congrArg some (by kernel_rfl))⟩
  f29:=⟨Tryz.f320.name,by decide,Tryz.func320.trans (congrArg some (by kernel_rfl))⟩
  f31:=Tryz.func340.trans (congrArg some (by kernel_rfl))
  f32:=Tryz.func341.trans (congrArg some (by kernel_rfl))
  f36:=⟨Tryz.f339.name,by decide,Tryz.func339.trans (congrArg some (by kernel_rfl))⟩
  f37:=⟨Tryz.f342.name,by decide,Tryz.func342.trans (congrArg some (by kernel_rfl))⟩
  f38:=⟨Tryz.f343.name,by decide,Tryz.func343.trans (congrArg some (by kernel_rfl))⟩
  f39:=⟨Tryz.f344.name,by decide,Tryz.func344.trans (congrArg some (by kernel_rfl))⟩
  f41:=⟨Tryz.f354.name,by decide,Tryz.func354.trans (congrArg some (by kernel_rfl))⟩
  t0:=Tryz.underlying0
  a0:=Tryz.isAgg0
  z0:=Tryz.sizeOf0
  v0:=Tryz.zeroValue0
  t3:=Tryz.underlying3
  a3:=Tryz.isAgg3
  z3:=Tryz.sizeOf3
  v3:=Tryz.zeroValue3
  t4:=Tryz.underlying4
  a4:=Tryz.isAgg4
  z4:=Tryz.sizeOf4
  v4:=Tryz.zeroValue4
  t5:=Tryz.underlying5
  a5:=Tryz.isAgg5
  z5:=Tryz.sizeOf5
  v5:=Tryz.zeroValue5
  t9:=Tryz.underlying9
  a9:=Tryz.isAgg9
  z9:=Tryz.sizeOf9
  v9:=Tryz.zeroValue9
  t26:=Tryz.underlying73
  a26:=Tryz.isAgg73
  z26:=Tryz.sizeOf73
  v26:=Tryz.zeroValue73
  t27:=Tryz.underlying73
  a27:=Tryz.isAgg73
  z27:=Tryz.sizeOf73
  v27:=Tryz.zeroValue73
  t29:=Tryz.underlying9
  a29:=Tryz.isAgg9
  z29:=Tryz.sizeOf9
  v29:=Tryz.zeroValue9
  t32:=Tryz.underlying378
  a32:=Tryz.isAgg378
  z32:=Tryz.sizeOf378
  v32:=Tryz.zeroValue378
  t35:=Tryz.underlying398
  a35:=Tryz.isAgg398
  z35:=Tryz.sizeOf398
  v35:=Tryz.zeroValue398
  t36:=Tryz.underlying399
  a36:=Tryz.isAgg399
  z36:=Tryz.sizeOf399
  v36:=Tryz.zeroValue399
  t41:=Tryz.underlying195
  a41:=Tryz.isAgg195
  z41:=Tryz.sizeOf195
  v41:=Tryz.zeroValue195
  t44:=Tryz.underlying394
  a44:=Tryz.isAgg394
  z44:=Tryz.sizeOf394
  v44:=Tryz.zeroValue394
  t46:=Tryz.underlying406
  a46:=Tryz.isAgg406
  z46:=Tryz.sizeOf406
  v46:=Tryz.zeroValue406
  t53:=Tryz.underlying427
  a53:=Tryz.isAgg427
  z53:=Tryz.sizeOf427
  v53:=Tryz.zeroValue427
  t57:=Tryz.underlying431
  a57:=Tryz.isAgg431
  z57:=Tryz.sizeOf431
  v57:=Tryz.zeroValue431
  t63:=Tryz.underlying441
  a63:=Tryz.isAgg441
  z63:=Tryz.sizeOf441
  v63:=Tryz.zeroValue441
  t64:=Tryz.underlying442
  a64:=Tryz.isAgg442
  z64:=Tryz.sizeOf442
  v64:=Tryz.zeroValue442 }
open Go.RowKit Go.Maps Go.Sort
theorem Tryz.sorts176 (m:Nat):AnyZ.SortsIn Tryz.prog Tryz.sorted176_ren Fence.wide m:=
 ⟨fun blk off cap ss W hH hblk hsz=>callsIn_wide.2 (AnyM.slices_Sort_string Tryz.sort249 blk off cap ss W hH hblk hsz),
 fun p cap W=>callsIn_wide.2 (AnyM.slices_Sort_string_none Tryz.sort249 p cap W)⟩
theorem Tryz.maps_Keys_177 (mb:Option Nat) (W:World):CallsIn Fence.wide 5 Tryz.prog 177 #[.map mb] W fun e w'=>e=.returned (.func (.func 250) #[] #[.pointer (some ⟨W.heap.size,0,none⟩)])/\w'=W.alloc (.cells #[.map mb] 303):=
 AnyZ.keys_in Tryz.keys177 Fence.wide 5 trivial Z mb W
end Go.Proofs
end
section
namespace Go.Lens.Tb
open Go.Proofs Go.RowKit Go.WideShapes Go.WideMaps
variable [Lz]
theorem keys_ok (kv:KV) (h d:Nat) (hd:d≠h):q6 Tryz.prog 177 [.mref h] (qx [(h,.obj (jT kv))]) (.clos (.func 250) [] [.bref d 0]) [(d,.box 303 [.mref h])]:=by
  refine⟨fun k hk=>?_,fun G w vs M hv=>.inl ?_⟩
  · simp[DV.qT,DV.refs] at hk;subst hk;exact⟨.obj (jT kv),by simp[qM]⟩
  obtain⟨v,rfl,hv1⟩:=hv.one
  simp only[qz] at hv1
  obtain⟨_,rfl⟩:=hv1
  refine⟨Tryz.call177 _ _,Calls.mono (callsIn_wide.1 (Tryz.maps_Keys_177 (some (G.ρ h).map) w)) ?_⟩
  rintro e w' ⟨rfl,rfl⟩
  have hln:qx [(h,MO.obj (jT kv))] d=none:=by simp[qM,Ne.symm hd];rfl
  refine⟨_,rfl,_,jH (B:={ addr:=some ⟨w.heap.size,0,none⟩ }) M.fresh hln ?_ ?_ (by intro k hk;simp[DV.refs,DV.qT] at hk;exact .inl hk) (by intro k hk;simp[MO.refs,DV.refs,DV.qT] at hk;subst hk;exact .inr ⟨.obj (jT kv),by simp[qM]⟩)⟩
  · simp only[qz,qD]
    exact⟨#[],_,rfl,rfl,_,[],rfl,⟨by simp[Gh.new],w.heap.size,by simp[Gh.new],rfl⟩,rfl⟩
  · obtain⟨k1,e1,e2⟩:=M.ms h _ (show qx [(h,MO.obj (jT kv))] h=some (.obj (jT kv)) by simp[qM])
    simp only[jc]
    refine⟨by simp[Gh.new],w.heap.size, #[.map (some (G.ρ h).map)],by simp[Gh.new],by simp[Gh.new],heap_alloc_new w _,by simp[Value.oneCell'],?_⟩
    simp only[qD,qz]
    exact⟨_,[],rfl,⟨by simp[Gh.new,Ne.symm hd];exact k1,by simp[Gh.new,Ne.symm hd]⟩,rfl⟩
theorem sorted_at {H:Type} (Bm b nn:Nat) (D0:DataW H) (R:Value->Option (DataW H×List MemPlace)) (w:World) (hBm:Bm<w.heap.size) (hcell:w.cell? ⟨Bm,0,none⟩=some (.map (some b))) (hown:w.ownsMap Tryz.prog 9 R b nn D0)
    (hmax:Maps.size D0<=maxLen) (hbytes:Maps.size D0*16<=140737488355328) :
    CallsIn Fence.wide 5 Tryz.prog 176 #[.func (.func 250) #[] #[.pointer (some ⟨Bm,0,none⟩)]] w fun e w'=>∃ (v:Value) (ss:List (List UInt8)),e=.returned v/\ss.Perm (strKeys D0)/\
      w'.ownsRow w.heap.size 9 1 v ss.length ((ss.mergeSort (fun x y=>decide (x<=y))).map encStr)/\(v=.slice none 0 0↔ss=[])/\Below w.heap.size w w':=by
  have hseq:SeqGives Fence.wide 2 Tryz.prog 250 #[.pointer (some ⟨Bm,0,none⟩)] encStr (fun ss=>ss.Perm (strKeys D0)) (Maps.size D0) w:=
    AnyZ.keys_gives (ρ:=Tryz.keys177_ren) { Tryz.keys177 with } Fence.wide _ trivial Z (by omega) Bm b nn D0 _ hBm hcell hown
  exact AnyZ.sorted_in Tryz.sorted176 Fence.wide 5 trivial trivial trivial trivial Z (by omega) (Tryz.sorts176 _) (enters_of Tryz.func249 (by kernel_rfl) Z) 250 #[.pointer (some ⟨Bm,0,none⟩)] trivial (enters_of Tryz.func250 (by kernel_rfl) Z) _ _ hmax hbytes _ hseq
def keysOf (kv:KV):List (List UInt8):=(kv.map (·.1)).mergeSort (fun x y=>decide (x<=y))
def anyR:Value->Option (DataW Unit×List MemPlace):=fun _=>some (.nil,[])
theorem mkEs_keys:∀ (kv:KV) (i:Nat),(ZL i kv).map (·.key)=kv.map fun p=>.string (bsO p.1)
  | [],_=>rfl
  | (k,v)::l,i=>by simp[ZL,mkEs_keys l (i+1)]
theorem mkEs_born:∀ (kv:KV) (i:Nat),(ZL i kv).map (·.born)=List.range' i kv.length
  | [],_=>rfl
  | (k,v)::l,i=>by simp[ZL,mkEs_born l (i+1),List.range'_succ]
theorem own_of {w:World} {b:Nat} {kv:KV} (hb:w.heap[b]? =some (jT kv)) (hnd:(kv.map (·.1)).Nodup) (hlen:kv.length<=4194304) (hk:∀ p∈kv,p.1.length<=1048576) :
    ∃ D0:DataW Unit,w.ownsMap Tryz.prog 9 anyR b kv.length D0/\Maps.size D0=kv.length/\(strKeys D0).Perm (kv.map (·.1)):=by
  have hkey:∀ p∈kv,keyOf Tryz.prog 9 (.string (bsO p.1))=some (.string p.1):=fun p hp=>by
    have hsz:(bsO p.1).size<=maxLen:=by
      have:=hk p hp
      have e:(bsO p.1).size=p.1.length:=by simp[bsO,ByteArray.size]
      rw[e];unfold maxLen;omega
    rw[keyOf_string_mk Tryz.underlying9 hsz];simp[bsO]
  have hrd:∀ (kv:KV) (i:Nat),(∀ p∈kv,keyOf Tryz.prog 9 (.string (bsO p.1))=some (.string p.1))->(ZL i kv).map (WideElems.rd Tryz.prog 9 anyR)=kv.map fun p=>some (.string p.1,.nil):=by
    intro kv
    induction kv with
    | nil=>intro i _;rfl
    | cons p l ih=>
      intro i h
      obtain⟨k,v⟩:=p
      simp only[ZL,zw,ih (i+1) (fun p hp=>h p (by simp[hp]))]
      rw[WideElems.rd_mk (h (k,v) (by simp)) (show anyR v=some (.nil,[]) from rfl)]
  have hrg:(ZL 0 kv).map (WideElems.rg Tryz.prog 9 anyR)=kv.map fun p=>(.string p.1,.nil):=by
    have:=congrArg (List.map (fun o=>Option.getD o (.bool false,.nil))) (hrd kv 0 hkey)
    rw[List.map_map,List.map_map] at this
    have e1:WideElems.rg Tryz.prog 9 anyR=(fun o=>Option.getD o (Lit.bool false,(DataW.nil:DataW Unit))) ∘ WideElems.rd Tryz.prog 9 anyR:=by
      funext x;simp only[WideElems.rg,Function.comp]
    rw[e1,this]
    simp only[Function.comp_def,zP]
  have hfit:WideElems.Fit Tryz.prog 9 anyR (ZL 0 kv).toArray kv.length:=by
    refine⟨by simp[mkEs_length];unfold maxLen;omega,⟨?_,?_,?_⟩,?_⟩
    · intro x hx;exact born_lt (by simpa using hx)
    · simp only[mkEs_born];exact List.nodup_range'
    · simp only[mkEs_keys]
      rw[List.Nodup,List.pairwise_map]
      rw[List.Nodup,List.pairwise_map] at hnd
      exact hnd.imp fun h e=>h (bsO_inj.1 (by simpa using e))
    · intro x hx
      have hx':x∈ZL 0 kv:=by simpa using hx
      have hm:WideElems.rd Tryz.prog 9 anyR x∈(ZL 0 kv).map (WideElems.rd Tryz.prog 9 anyR):=zE.2 ⟨x,hx',rfl⟩
      rw[hrd kv 0 hkey] at hm
      obtain⟨p,_,hp⟩:=zE.1 hm
      exact⟨_,hp.symm⟩
  refine⟨_,⟨_,_,hb,hfit,by simp[mkEs_length],rfl⟩,?_,?_⟩
  · simp only[Maps.size]
    rw[(sorted_perm _).length_eq];simp[mkEs_length]
  · simp only[strKeys,hrg]
    refine ((sorted_perm _).map _).trans ?_
    simp[List.map_map,Function.comp_def,strOf]
theorem relElems_strs {R:Rd} {b:Nat}:∀ (l:List (List UInt8)) (off:Nat),(∀ j c,l[j]? =some c->R.cell b (off+j)=some (.string (bsO c)))->
    qQ R (l.map fun c=>[bytesP c]) b off 1
  | [],_,_=>by simp only[zZ,qQ]
  | c::l,off,h=>by
    simp only[zw,qQ,qW]
    refine⟨rfl,⟨⟨_,by simpa using h 0 c rfl,rfl,by simp[bytesP,qN,isLit,bsO]⟩,trivial⟩,relElems_strs l (off+1) fun j c' hj=>?_⟩
    have:=h (j+1) c' (by simpa using hj)
    rwa [show off+1+j=off+(j+1) by omega]
theorem sorted_ok (kv:KV) (h d:Nat) (hd:d≠h) (hnd:(kv.map (·.1)).Nodup) (hlen:kv.length<=4194304) (hk:∀ p∈kv,p.1.length<=1048576) :
    q6 Tryz.prog 176 [.clos (.func 250) [] [.bref d 0]] (qx [(d,.box 303 [.mref h]),(h,.obj (jT kv))]) (.pv (.slice ((keysOf kv).map fun k=>[bytesP k]))) []:=by
  refine⟨fun k hk=>?_,fun G w vs M hv=>.inl ?_⟩
  · simp[DV.qT,DV.refs] at hk;subst hk;exact⟨.box 303 [.mref h],by simp[qM]⟩
  obtain⟨v,rfl,hv1⟩:=hv.one
  simp only[qz,qD] at hv1
  obtain⟨x,y,rfl,hx,_,_,hy,⟨_,b,ha,rfl⟩,rfl⟩:=hv1
  have hx':x= #[]:=by rw[<-Array.toArray_toList (xs:=x),hx]
  have hy':y= #[.pointer (some ⟨b,0,none⟩)]:=by rw[<-Array.toArray_toList (xs:=y),hy]
  subst hx' hy'
  obtain⟨_,b',c,f1,f2,f3,f4,f5⟩:=M.ms d _ (show qx [(d,MO.box 303 [.mref h]),(h,.obj (jT kv))] d=some (.box 303 [.mref h]) by simp[qM])
  rw[ha] at f1
  simp only[zh,Addr.mk.injEq,and_true] at f1
  subst f1
  simp only[qD,qz] at f5
  obtain⟨_,_,hc,⟨_,rfl⟩,rfl⟩:=f5
  obtain⟨k1,e1,e2⟩:=M.ms h _ (show qx [(d,MO.box 303 [.mref h]),(h,.obj (jT kv))] h=some (.obj (jT kv)) by simp[qM,hd])
  have hc':c= #[.map (some (G.ρ h).map)]:=by rw[<-Array.toArray_toList (xs:=c),hc]
  subst hc'
  obtain⟨D0,hown,hsz,hperm⟩:=own_of e2 hnd hlen hk
  have hbl:b<w.heap.size:=(zT.1 f3).1
  have hcell:w.cell? ⟨b,0,none⟩=some (.map (some (G.ρ h).map)):=by simp[World.cell?,f3]
  refine⟨Tryz.call176 _ _,Calls.mono (callsIn_wide.1 (sorted_at b _ _ D0 anyR w hbl hcell hown (by rw[hsz];unfold maxLen;omega) (by rw[hsz];omega))) ?_⟩
  rintro e w' ⟨r,ss,rfl,hss,hrow,hnil,hB⟩
  refine⟨r,rfl,G,jS M.ctx hB.os hB.tape hB.output hB.size (fun k hk=>hB.block k hk) ?_ (by simp[DV.refs])⟩
  have hsort:ss.mergeSort (fun x y=>decide (x<=y))=keysOf kv:=mergeSort_of_perm (hss.trans hperm)
  rw[hsort] at hrow
  have hl:(keysOf kv).length=ss.length:=by rw[<-hsort,List.length_mergeSort]
  simp only[qz,qN]
  obtain⟨h1,⟨rfl,h0⟩|⟨g,cap,cur,rfl,hg,hcur,hn,hcap,hcs,htk⟩⟩:=hrow
  · have:keysOf kv=[]:=zL (by rw[hl];exact h0)
    rw[this]
    exact⟨none,0,rfl,zz _,.inl rfl⟩
  · refine⟨_,cap,by rw[zJ,hl],by rw[zJ,hl];exact hn,.inr ⟨g,0,1,rfl,relElems_strs _ _ fun j k hj=>?_⟩⟩
    have hgb:¬g<G.base:=by have:=M.baseLe;omega
    have hγ:G.γ g=none:=by
      cases hq:G.γ g with
      | none=>rfl
      | some k=>have:=M.fresh _ _ hq;omega
    have hcj:cur[j]? =some (.string (bsO k)):=by
      have hj2:((keysOf kv).map encStr)[j]? =some (encStr k):=by rw[qf,hj];rfl
      rw[<-htk,qo] at hj2
      split at hj2
      · rw[qj] at hj2;exact hj2
      · cases hj2
    simp only[Gh.rd,if_neg hgb,hγ,qq,Nat.zero_add]
    simp[World.cell?,hcur,hcj]
end Go.Lens.Tb
end
section
namespace Go.Lens.Tm
open Go.Lens.Tb Go.Proofs
variable [Lz]
def eF (p:Fld):List PV:=[.lit (.string (bsO (Prod.fst p))),.lit (.string (bsO (Prod.snd p)))]
def eN (n:List UInt8):List PV:=[.lit (.string (bsO n))]
theorem TK.nextM {P:Program} {Y:Tab} [qU P Y] {nb n:Nat} {ops:Array Oper} {s:St} {Q:Exit->St->Prop} {K:List Fr} {id h hm:Nat} {kv:KV} {seen:Array Nat} {dst:Option Tmp} {x:Operand} {ty:TypeId} {pos:String} {af:Array Edge} {os:List Oper}
  (hops:ops.toList=⟨dst,.next x false,ty,pos,af,none⟩::os) (hda:js n (.region id ops false)=true) (hx:ev1 s x=.bref h 0)
  (hl:qx s.ms h=some (.miter hm kv.length seen)) (hmm:qx s.ms hm=some (.obj (jT kv))) (hkl:∀ p∈kv,isLit p.2=true)
  (hT:∀ i k v,kv[i]? =some (k,v)->i∉seen->RG P Y nb ops false os (stp s ⟨dst,.tup [lit (.bool true),lit (.string (bsO k)),lit v],[(h,.miter hm kv.length (seen.push i))],[h,hm]⟩) [] (PK P n nb Q K .normal))
  (hF:(∀ i,i<kv.length->i∈seen)->RG P Y nb ops false os (stp s ⟨dst,.tup [lit (.bool false)],[],[h,hm]⟩) [] (PK P n nb Q K .normal)):TK P n nb Q (.region id ops false) K s:=
 T.nextM (Y:=Y) hops hda hx hl hmm hkl hT hF
def cF:List Fld->List Fld->List Fld
 | m,[]=>m
 | m,p::l=>cF (setF p.1 p.2 m) l
def nm (l:List Fld):List (List UInt8):=(cF [] l).map (·.1)
def nmsK (b m t:List Fld):Nat->List (List UInt8)
 | 0=>[]
 | 1=>nm b
 | 2=>nm b++nm m
 | _=>nm b++nm m++nm t
def unseen (n:Nat) (seen:Array Nat):Nat:=((List.range n).filter fun i=>!seen.contains i).length
def KSet (L:List (List UInt8)) (kv:KV):Prop:=(kv.map (·.1)).Nodup/\(∀ x,x∈kv.map (·.1)↔x∈L)/\kv.length<=L.length
def InI (M:KV) (L:List (List UInt8)) (seen:Array Nat) (kw:KV):Prop:=
 (kw.map (·.1)).Nodup/\(∀ x,x∈kw.map (·.1)↔x∈L\/∃ i∈seen,∃ p,M[i]? =some p/\p.1=x)/\kw.length+unseen M.length seen<=L.length+M.length
theorem setKV_names (k:List UInt8) (v:Value):∀ kv:KV,(Zq k v kv).map (·.1)=if k∈kv.map (·.1) then kv.map (·.1) else kv.map (·.1)++[k]
 | []=>by simp[Zq]
 | (a,x)::l=>by
  simp only[Zq,zw,zF]
  by_cases h:k=a
  ·simp[h]
  simp only[h,qr,false_or,zw,setKV_names k v l]
  split<;>simp
theorem setKV_len (k:List UInt8) (v:Value) (kv:KV):(Zq k v kv).length<=kv.length+1:=by
 have:=congrArg List.length (setKV_names k v kv)
 rw[zJ] at this
 rw[this];split<;>simp
theorem unseen_push {n i:Nat} {seen:Array Nat} (hi:i<n) (hs:i∉seen):unseen n (seen.push i)+1<=unseen n seen:=by
 unfold unseen
 have key:∀ l:List Nat,(l.filter fun j=>!(seen.push i).contains j).length<=(l.filter fun j=>!seen.contains j).length/\
   (i∈l->(l.filter fun j=>!(seen.push i).contains j).length+1<=(l.filter fun j=>!seen.contains j).length):=by
  intro l
  induction l with
  | nil=>exact⟨zz _,fun h=>by cases h⟩
  | cons j l ih=>
   have hc:(seen.push i).contains j=(seen.contains j||j==i):=by
    rw[zM];simp
   simp only[List.filter_cons,hc]
   by_cases hji:j=i
   ·subst hji
    have:seen.contains j=false:=by simpa using hs
    simp only[this,beq_self_eq_true,Bool.or_true,Bool.not_true,qp,qr,Bool.not_false,qq,zb]
    exact⟨by omega,fun _=>by omega⟩
   have hb:(j==i)=false:=by simpa using hji
   simp only[hb,Bool.or_false,zF]
   split
   ·simp only[zb]
    refine⟨by omega,fun h=>?_⟩
    rcases h with h|h
    ·exact absurd h.symm hji
    have:=ih.2 h;omega
   refine⟨ih.1,fun h=>?_⟩
   rcases h with h|h
   ·exact absurd h.symm hji
   exact ih.2 h
 exact (key _).2 (List.mem_range.2 hi)
theorem in_start {M:KV} {L:List (List UInt8)} {kv:KV} (h:KSet L kv):InI M L #[] kv:=by
 refine⟨h.1,fun x=>?_,?_⟩
 ·rw[h.2.1 x];simp
 have:unseen M.length #[]<=M.length:=by
  unfold unseen
  exact qi (List.length_filter_le _ _) (by simp)
 have:=h.2.2
 omega
theorem in_step {M:KV} {L:List (List UInt8)} {seen:Array Nat} {kw:KV} (h:InI M L seen kw) {i:Nat} {k:List UInt8} {v u:Value} (hk:M[i]? =some (k,v)) (hi:i∉seen):InI M L (seen.push i) (Zq k u kw):=by
 obtain⟨h1,h2,h3⟩:=h
 have hlt:i<M.length:=(List.getElem?_eq_some_iff.1 hk).1
 refine⟨?_,fun x=>?_,?_⟩
 ·rw[setKV_names]
  split
  ·exact h1
  rename_i hn
  exact List.nodup_append.2 ⟨h1,by simp,fun a ha b hb=>by simp at hb;subst hb;exact fun e=>hn (e▸ha)⟩
 ·rw[setKV_names]
  have e:(∃ j∈seen.push i,∃ p,M[j]? =some p/\p.1=x)↔(∃ j∈seen,∃ p,M[j]? =some p/\p.1=x)\/k=x:=by
   constructor
   ·rintro⟨j,hj,p,hp,hx⟩
    rcases Array.mem_push.1 hj with hj|rfl
    ·exact .inl ⟨j,hj,p,hp,hx⟩
    rw[hk] at hp;cases hp;exact .inr hx
   rintro (⟨j,hj,p,hp,hx⟩|rfl)
   ·exact⟨j,Array.mem_push.2 (.inl hj),p,hp,hx⟩
   exact⟨i,Array.mem_push.2 (.inr Z),(k,v),hk,rfl⟩
  rw[e,<-or_assoc,<-h2 x]
  split
  ·rename_i hm
   constructor
   ·exact .inl
   rintro (h|rfl)
   ·exact h
   exact hm
  simp[eq_comm]
 have:=unseen_push hlt hi
 have:=setKV_len k u kw
 omega
theorem in_end {M:KV} {L:List (List UInt8)} {seen:Array Nat} {kw:KV} (h:InI M L seen kw) (hall:∀ i,i<M.length->i∈seen):KSet (L++M.map (·.1)) kw:=by
 obtain⟨h1,h2,h3⟩:=h
 refine⟨h1,fun x=>?_,by simp only[za,zJ];omega⟩
 rw[h2 x,zI]
 constructor
 ·rintro (h|⟨i,_,p,hp,rfl⟩)
  ·exact .inl h
  exact .inr (zE.2 ⟨p,List.mem_of_getElem? hp,rfl⟩)
 rintro (h|h)
 ·exact .inl h
 obtain⟨p,hp,rfl⟩:=zE.1 h
 obtain⟨i,hi,he⟩:=List.getElem_of_mem hp
 exact .inr ⟨i,hall i hi,p,by rw[zm hi,he],rfl⟩
theorem set_len (k c:List UInt8):∀ m:List Fld,(setF k c m).length<=m.length+1
 | []=>zz _
 | (a,x)::l=>by
  simp only[setF]
  split
  ·simp
  have:=set_len k c l;simp only[zb];omega
theorem cF_len:∀ (l m:List Fld),(cF m l).length<=m.length+l.length
 | [],m=>by simp[cF]
 | p::l,m=>by
  have:=cF_len l (setF p.1 p.2 m)
  have:=set_len p.1 p.2 m
  simp only[cF,zb];omega
theorem set_mem {k c:List UInt8}:∀ {m:List Fld} {q:Fld},q∈setF k c m->q.1=k\/q∈m
 | [],q,h=>by simp only[setF,zg] at h;subst h;exact .inl rfl
 | (a,x)::l,q,h=>by
  simp only[setF] at h
  split at h
  ·rename_i e
   rcases zF.1 h with rfl|h
   ·exact .inl e.symm
   exact .inr (zO _ h)
  rcases zF.1 h with rfl|h
  ·exact .inr (by simp)
  rcases set_mem h with e|e
  ·exact .inl e
  exact .inr (zO _ e)
theorem cF_mem:∀ {l m:List Fld} {q:Fld},q∈cF m l->q∈m\/∃ p∈l,p.1=q.1
 | [],m,q,h=>.inl h
 | p::l,m,q,h=>by
  simp only[cF] at h
  rcases cF_mem h with h|⟨p',h1,h2⟩
  ·rcases set_mem h with e|e
   ·exact .inr ⟨p,by simp,e.symm⟩
   exact .inl e
  exact .inr ⟨p',zO _ h1,h2⟩
def Small (l:List Fld):Prop:=l.length<=1048576/\∀ p∈l,p.1.length<=1048576
theorem nm_len {l:List Fld} (h:Small l):(nm l).length<=1048576:=by
 have:=cF_len l []
 simp only[nm,zJ];simp only[zd] at this;have:=h.1;omega
theorem nm_name {l:List Fld} (h:Small l):∀ x∈nm l,x.length<=1048576:=by
 intro x hx
 obtain⟨q,hq,rfl⟩:=zE.1 hx
 rcases cF_mem hq with e|⟨p,hp,e⟩
 ·cases e
 rw[<-e];exact h.2 p hp
theorem kset_small {b m t:List Fld} {kv:KV} (h:KSet (nmsK b m t 3) kv) (hb:Small b) (hm:Small m) (ht:Small t):kv.length<=4194304/\∀ p∈kv,p.1.length<=1048576:=by
 constructor
 ·have:=h.2.2
  simp only[nmsK,za] at this
  have:=nm_len hb;have:=nm_len hm;have:=nm_len ht
  omega
 intro p hp
 have:=(h.2.1 p.1).1 (zE.2 ⟨p,hp,rfl⟩)
 simp only[nmsK,zI] at this
 rcases this with (h|h)|h
 ·exact nm_name hb _ h
 ·exact nm_name hm _ h
 exact nm_name ht _ h
def mgo (B M T:List Fld):List (List UInt8)->List Fld×List (List UInt8)
 | []=>([],[])
 | x::l=>
  let r:=mgo B M T l
  if (jn x M=jn x T\/jn x T=jn x B) then (if (jn x M).isSome then ((x,(jn x M).getD [])::r.1,r.2) else r)
  else if jn x M=jn x B then (if (jn x T).isSome then ((x,(jn x T).getD [])::r.1,r.2) else r)
  else (r.1,x::r.2)
def srt (L:List (List UInt8)):List (List UInt8):=L.foldr insB []
def mgR (b m t:List Fld):List Fld×List (List UInt8):=mgo (cF [] b) (cF [] m) (cF [] t) (srt (nmsK b m t 3))
theorem beqB_iff:∀ {x y:List UInt8},beqB x y=true↔x=y
 | [],[]=>by simp[beqB]
 | [],b::m=>by simp[beqB]
 | a::l,[]=>by simp[beqB]
 | a::l,b::m=>by
  simp only[beqB,zj,beqB_iff,List.cons.injEq]
  constructor
  ·rintro⟨h,rfl⟩;exact⟨UInt8.toNat_inj.1 (zC h),rfl⟩
  rintro⟨rfl,rfl⟩;exact⟨Nat.beq_refl _,rfl⟩
theorem blt_iff:∀ {x y:List UInt8},blt x y=true↔x<y
 | x,[]=>by cases x<;>simp[blt]
 | [],b::m=>by simp[blt]
 | a::l,b::m=>by
  rw[List.cons_lt_cons_iff,blt]
  by_cases h1:a.toNat<b.toNat
  ·have:Nat.blt a.toNat b.toNat=true:=by rw[Nat.blt_eq];exact h1
   simp[this,UInt8.lt_iff_toNat_lt,h1]
  have e1:Nat.blt a.toNat b.toNat=false:=by rw[Bool.eq_false_iff,Ne,Nat.blt_eq];exact h1
  by_cases h2:b.toNat<a.toNat
  ·have:Nat.blt b.toNat a.toNat=true:=by rw[Nat.blt_eq];exact h2
   have hne:¬a=b:=by rintro rfl;omega
   simp[e1,this,UInt8.lt_iff_toNat_lt,h1,hne]
  have e2:Nat.blt b.toNat a.toNat=false:=by rw[Bool.eq_false_iff,Ne,Nat.blt_eq];exact h2
  have he:a=b:=UInt8.toNat_inj.1 (by omega)
  subst he
  simp[e1,blt_iff,UInt8.lt_iff_toNat_lt]
theorem lt_of_not {x y:List UInt8} (h1:¬x=y) (h2:¬x<y):y<x:=by
 by_cases h:y<x
 ·exact h
 exact absurd (List.le_antisymm (List.not_lt.1 h) (List.not_lt.1 h2)) h1
theorem mem_ins {x z:List UInt8}:∀ {l:List (List UInt8)},z∈insB x l↔z=x\/z∈l
 | []=>by simp[insB]
 | y::l=>by
  simp only[insB]
  cases h:beqB x y with
  | true=>rw[beqB_iff] at h;subst h;simp
  | false=>
   cases h2:blt x y with
   | true=>simp
   | false=>
    simp only[cond_false,zF,mem_ins]
    constructor
    ·rintro (h|h|h)<;>simp[h]
    rintro (h|h|h)<;>simp[h]
theorem ins_sorted {x:List UInt8}:∀ {l:List (List UInt8)},l.Pairwise (· < ·)->(insB x l).Pairwise (· < ·)
 | [],_=>by simp[insB]
 | y::l,h=>by
  simp only[insB]
  cases h1:beqB x y with
  | true=>exact h
  | false=>
   have n1:¬x=y:=fun e=>by rw[beqB_iff.2 e] at h1;cases h1
   cases h2:blt x y with
   | true=>
    rw[blt_iff] at h2
    refine List.pairwise_cons.2 ⟨fun z hz=>?_,h⟩
    rcases zF.1 hz with rfl|hz
    ·exact h2
    exact List.lt_trans h2 ((List.pairwise_cons.1 h).1 z hz)
   | false=>
    have n2:¬x<y:=fun e=>by rw[blt_iff.2 e] at h2;cases h2
    refine List.pairwise_cons.2 ⟨fun z hz=>?_,ins_sorted (List.pairwise_cons.1 h).2⟩
    rcases mem_ins.1 hz with rfl|hz
    ·exact lt_of_not n1 n2
    exact (List.pairwise_cons.1 h).1 z hz
theorem srt_sorted:∀ L:List (List UInt8),(srt L).Pairwise (· < ·)
 | []=>List.Pairwise.nil
 | x::L=>ins_sorted (srt_sorted L)
theorem mem_srt {z:List UInt8}:∀ {L:List (List UInt8)},z∈srt L↔z∈L
 | []=>Iff.rfl
 | x::L=>by
  show z∈insB x (srt L)↔_
  rw[mem_ins,mem_srt,zF]
theorem keys_srt {L:List (List UInt8)} {kv:KV} (h:KSet L kv):keysOf kv=srt L:=by
 have tr:∀ a b c:List UInt8,decide (a<=b)=true->decide (b<=c)=true->decide (a<=c)=true:=fun a b c h1 h2=>by simp only[zf] at *;exact List.le_trans h1 h2
 have to:∀ a b:List UInt8,(decide (a<=b)||decide (b<=a))=true:=fun a b=>by simp only[Bool.or_eq_true,zf];exact List.le_total a b
 have hp:(keysOf kv).Perm (kv.map (·.1)):=List.mergeSort_perm _ _
 have hs:=srt_sorted L
 refine List.Perm.eq_of_pairwise (le:=fun a b=>decide (a<=b)=true) (fun a b _ _ h1 h2=>?_) (List.pairwise_mergeSort tr to _) ?_ ?_
 ·simp only[zf] at h1 h2
  exact List.le_antisymm h1 h2
 ·exact hs.imp fun h=>by simp only[zf];exact List.le_of_lt h
 refine (List.perm_ext_iff_of_nodup (hp.nodup_iff.2 h.1) ?_).2 fun x=>?_
 ·exact hs.imp fun h e=>by subst e;exact List.lt_irrefl _ h
 rw[hp.mem_iff,h.2.1 x,mem_srt]
theorem kk_len {b m t:List Fld} {kv:KV} (h:KSet (nmsK b m t 3) kv) (hb:Small b) (hm:Small m) (ht:Small t):(keysOf kv).length<=4194304:=by
 have:=(kset_small h hb hm ht).1
 simpa [keysOf] using this
theorem kV (a b:Option (List UInt8)):(decide (Option.getD a []=Option.getD b [])&&(Option.isSome a==Option.isSome b))=decide (a=b):=by
 cases a<;>cases b<;>simp
theorem asc_sorted:∀ {l:List Fld},ascB l=true->(l.map (·.1)).Pairwise (· < ·)
  | [],_=>by simp
  | [a],_=>by simp
  | a::b::l,h=>by
    simp only[ascB,zj] at h
    have ih:=asc_sorted (l:=b::l) h.2
    have hab:=blt_iff.1 h.1
    rw[zw]
    refine List.pairwise_cons.2 ⟨fun z hz=>?_,ih⟩
    rw[zw] at hz ih
    rcases zF.1 hz with rfl|hz
    · exact hab
    · exact List.lt_trans hab ((List.pairwise_cons.1 ih).1 z hz)
theorem set_new {k c:List UInt8}:∀ {m:List Fld},k∉m.map (·.1)->setF k c m=m++[(k,c)]
  | [],_=>rfl
  | (a,x)::l,h=>by
    simp only[zw,zF,not_or] at h
    simp only[setF,h.1,qr,set_new h.2,zQ]
theorem cF_new:∀ {l m:List Fld},(m.map (·.1)++l.map (·.1)).Nodup->cF m l=m++l
  | [],m,_=>by simp[cF]
  | p::l,m,h=>by
    have hn:p.1∉m.map (·.1):=fun hm=>by
      have:=List.nodup_append.1 h
      exact this.2.2 _ hm _ (by simp) rfl
    simp only[cF,set_new hn]
    rw[cF_new (by simpa using h)]
    simp
theorem cF_asc {l:List Fld} (h:ascB l=true):cF [] l=l:=by
  rw[cF_new]
  · rfl
  · simp only[zZ,zW]
    exact (asc_sorted h).imp fun h e=>by subst e;exact List.lt_irrefl _ h
theorem lookB_get (x:List UInt8):∀ l:List Fld,lookB x l=jn x l
  | []=>rfl
  | (y,c)::l=>by
    simp only[lookB,jn]
    by_cases h:x=y
    · subst h;rw[beqB_iff.2 rfl];simp
    · have:beqB x y=false:=by rw[Bool.eq_false_iff,Ne,beqB_iff];exact h
      rw[this,if_neg h];exact lookB_get x l
theorem eqO_iff {a b:Option (List UInt8)}:eqO a b=decide (a=b):=by
  cases a<;>cases b<;>simp[eqO]
  rw[zM,beqB_iff,zf]
theorem mergeL_mgo (B M T:List Fld):∀ l,mergeL B M T l=mgo B M T l
  | []=>rfl
  | x::l=>by
    simp only[mergeL,mgo,mergeL_mgo B M T l,lookB_get,eqO_iff]
    by_cases h1:jn x M=jn x T
    · cases hg:jn x M<;>simp[<-h1,hg]
    · by_cases h2:jn x T=jn x B
      · cases hg:jn x M<;>simp[h2]
      · by_cases h3:jn x M=jn x B
        · cases hg:jn x T<;>simp_all
        · simp[h1,h2,h3]
theorem merge_mgR {b m t:List Fld} (hb:ascB b=true) (hm:ascB m=true) (ht:ascB t=true):mgR b m t=merge3 b m t:=by
  unfold mgR merge3
  rw[mergeL_mgo,cF_asc hb,cF_asc hm,cF_asc ht]
  congr 1
  simp only[nmsK,nm,cF_asc hb,cF_asc hm,cF_asc ht,srt,<-qd]
  rw[List.foldr_map]
theorem small_of {l:List Fld} (h:smallB l=true):Small l:=by
  simp only[smallB,zj,zp] at h
  exact⟨zY h.1,fun p hp=>zY (h.2 p hp)⟩
end Go.Lens.Tm
end
section
namespace Go.Lens.Tm
open Go.Lens.Tb Go.Proofs
variable [Lz]
set_option maxRecDepth 100000
attribute [local irreducible] TK PK T RG EfR Body CG
theorem ag300:aggT tab 300=some false:=by kernel_rfl
theorem ag4:aggT tab 4=some false:=by kernel_rfl
theorem ag9:aggT tab 9=some false:=by kernel_rfl
theorem by174:ty174.info.bytes=32:=by kernel_rfl
theorem by9:ty9.info.bytes=16:=by kernel_rfl
theorem fa174_0:fadQ tab 174 0=some 0:=by kernel_rfl
theorem in174:tab.info? 174=some ty174.info:=by kernel_rfl
theorem in9:tab.info? 9=some ty9.info:=by kernel_rfl
theorem sz174:szT tab 174=some 2:=by kernel_rfl
theorem sz300:szT tab 300=some 1:=by kernel_rfl
theorem sz4:szT tab 4=some 1:=by kernel_rfl
theorem sz9:szT tab 9=some 1:=by kernel_rfl
theorem un300:tab.underlying 300=some (.map 9 9):=by kernel_rfl
theorem un302:tab.underlying 302=some (.array 3 300):=by kernel_rfl
theorem un303:tab.underlying 303=some (.map 9 4):=by kernel_rfl
theorem un59:tab.underlying 59=some (.slice 174):=by kernel_rfl
theorem ji:tab.underlying 73=some (.slice 9):=by kernel_rfl
theorem un9:tab.underlying 9=some (.string):=by kernel_rfl
theorem fe309:flatEq tab 309=some [.string,.bool]:=by kernel_rfl
theorem w175_1001 (l:List Fld) (hl:l.length<=1048576):q6 Tryz.prog 175 [vL eF l] (qx []) (.mref 1007) [(1007,.obj (jT (kvF (cF [] l))))]:=by
 haveI:=tab_ok
 obtain⟨fn,f1,f2,f3,f4,_,f6⟩:=qf175
 refine callOk_ofM (Y:=tab) (F:=fn175) 1001 f1 (f2.trans Z) f3 f4 f6 (nB Z) Z ?_
 clear f1 f2 f3 f4 f6
 refine kc (E Z (B.newMapF Z Z) (E Z (B.jh Z un59) (l2 (fun (k:Nat) (m:List Fld)=>[(3,.mref 1007),(7,vL eF l),(8,vI l.length),(9,vI k)]) (fun _ m=>[(1007,.obj (jT (kvF m)))]) (fun k m=>k<=l.length/\cF [] l=cF m (List.drop k l)) (fun k _=>l.length-k) 0 [] Z ?_ (sb Z Z Z) ?_)))
 · exact⟨zq _,rfl⟩
 intro k m hI0
 refine Cp Z Z (fun h1=>?_) (fun h1=>?_)
 ·refine E Z (B.idx (z:=([],[])) (i:=k) Z Z un59 sz174 (fun _=>rfl) Z (by omega)) (E Z (B.setMapF Z Z Z Z un300 un9) (E Z (B.add Z Z (by unfold R64;omega)) (pk Z (L2 (k+1) (setF (l.getD k ([],[])).1 (l.getD k ([],[])).2 m) ?_ ?_ (sb Z Z Z)))))
  · (refine⟨by omega,?_⟩;rw[hI0.2,drop_at l k ([],[]) (by omega)];rfl)
  · omega
 refine Rt Z ?_
 exact leafM (val0:=.mref 1007) (out0:=[(1007,.obj (jT (kvF m)))]) (by kernel_rfl) Z (by rw[hI0.2,zX (by omega)];rfl)
theorem w175_1101 (l:List Fld) (hl:l.length<=1048576):q6 Tryz.prog 175 [vL eF l] (qx []) (.mref 1107) [(1107,.obj (jT (kvF (cF [] l))))]:=by
 haveI:=tab_ok
 obtain⟨fn,f1,f2,f3,f4,_,f6⟩:=qf175
 refine callOk_ofM (Y:=tab) (F:=fn175) 1101 f1 (f2.trans Z) f3 f4 f6 (nB Z) Z ?_
 clear f1 f2 f3 f4 f6
 refine kc (E Z (B.newMapF Z Z) (E Z (B.jh Z un59) (l2 (fun (k:Nat) (m:List Fld)=>[(3,.mref 1107),(7,vL eF l),(8,vI l.length),(9,vI k)]) (fun _ m=>[(1107,.obj (jT (kvF m)))]) (fun k m=>k<=l.length/\cF [] l=cF m (List.drop k l)) (fun k _=>l.length-k) 0 [] Z ?_ (sb Z Z Z) ?_)))
 · exact⟨zq _,rfl⟩
 intro k m hI0
 refine Cp Z Z (fun h1=>?_) (fun h1=>?_)
 ·refine E Z (B.idx (z:=([],[])) (i:=k) Z Z un59 sz174 (fun _=>rfl) Z (by omega)) (E Z (B.setMapF Z Z Z Z un300 un9) (E Z (B.add Z Z (by unfold R64;omega)) (pk Z (L2 (k+1) (setF (l.getD k ([],[])).1 (l.getD k ([],[])).2 m) ?_ ?_ (sb Z Z Z)))))
  · (refine⟨by omega,?_⟩;rw[hI0.2,drop_at l k ([],[]) (by omega)];rfl)
  · omega
 refine Rt Z ?_
 exact leafM (val0:=.mref 1107) (out0:=[(1107,.obj (jT (kvF m)))]) (by kernel_rfl) Z (by rw[hI0.2,zX (by omega)];rfl)
theorem w175_1201 (l:List Fld) (hl:l.length<=1048576):q6 Tryz.prog 175 [vL eF l] (qx []) (.mref 1207) [(1207,.obj (jT (kvF (cF [] l))))]:=by
 haveI:=tab_ok
 obtain⟨fn,f1,f2,f3,f4,_,f6⟩:=qf175
 refine callOk_ofM (Y:=tab) (F:=fn175) 1201 f1 (f2.trans Z) f3 f4 f6 (nB Z) Z ?_
 clear f1 f2 f3 f4 f6
 refine kc (E Z (B.newMapF Z Z) (E Z (B.jh Z un59) (l2 (fun (k:Nat) (m:List Fld)=>[(3,.mref 1207),(7,vL eF l),(8,vI l.length),(9,vI k)]) (fun _ m=>[(1207,.obj (jT (kvF m)))]) (fun k m=>k<=l.length/\cF [] l=cF m (List.drop k l)) (fun k _=>l.length-k) 0 [] Z ?_ (sb Z Z Z) ?_)))
 · exact⟨zq _,rfl⟩
 intro k m hI0
 refine Cp Z Z (fun h1=>?_) (fun h1=>?_)
 ·refine E Z (B.idx (z:=([],[])) (i:=k) Z Z un59 sz174 (fun _=>rfl) Z (by omega)) (E Z (B.setMapF Z Z Z Z un300 un9) (E Z (B.add Z Z (by unfold R64;omega)) (pk Z (L2 (k+1) (setF (l.getD k ([],[])).1 (l.getD k ([],[])).2 m) ?_ ?_ (sb Z Z Z)))))
  · (refine⟨by omega,?_⟩;rw[hI0.2,drop_at l k ([],[]) (by omega)];rfl)
  · omega
 refine Rt Z ?_
 exact leafM (val0:=.mref 1207) (out0:=[(1207,.obj (jT (kvF m)))]) (by kernel_rfl) Z (by rw[hI0.2,zX (by omega)];rfl)
set_option maxHeartbeats 8000000 in
theorem w121 (b m t:List Fld) (hb:Small b) (hm:Small m) (ht:Small t):q6 Tryz.prog 121 [vL eF b,vL eF m,vL eF t] (qx []) (.tup [.aref 14 (mgR b m t).1.length,.aref 15 (mgR b m t).2.length]) [(15,.arr (mgR b m t).2.length 1 9 (List.map eN (mgR b m t).2)),(14,.arr (mgR b m t).1.length 2 174 (List.map eF (mgR b m t).1))]:=by
 haveI:=tab_ok
 obtain⟨fn,f1,f2,f3,f4,_,f6⟩:=qf121
 refine callOk_ofM (Y:=tab) (F:=fn121) 1 f1 (f2.trans Z) f3 f4 f6 (nB Z) Z ?_
 clear f1 f2 f3 f4 f6
 refine kc (E Z (B.j8 (enc:=eF) Z) (E Z (B.j8 (enc:=eN) Z) (E Z (B.kU (l:=[]) (w175_1001 b hb.1) Z Z trivial Z Z) (E Z (B.kU (l:=[]) (w175_1101 m hm.1) Z Z trivial Z Z) (E Z (B.kU (l:=[]) (w175_1201 t ht.1) Z Z trivial Z Z) (E Z (B.newMap Z Z) (l2 (fun (k:Nat) (kv:KV)=>[(8,.bref 9 0),(9,.mref 32),(32,.agg [.mref 1007,.mref 1107,.mref 1207]),(33,vI k)]) (fun _ kv=>[(9,.box 302 [.mref 1007,.mref 1107,.mref 1207]),(32,.obj (jT kv)),(1007,.obj (jT (kvF (cF [] b)))),(1107,.obj (jT (kvF (cF [] m)))),(1207,.obj (jT (kvF (cF [] t))))]) (fun k kv=>k<=3/\KSet (nmsK b m t k) kv) (fun k _=>3-k) 0 [] Z ?_ (sb Z Z Z) ?_)))))))
 · exact⟨by omega,List.nodup_nil,fun x=>by simp[nmsK],zq _⟩
 intro k kv hI0
 refine Cp Z Z (fun h1=>?_) (fun h1=>?_)
 ·obtain rfl|rfl|rfl:k=0\/k=1\/k=2:=by omega
  ·refine E Z (B.idxA (i:=0) Z Z un302 ag300 sz300 (nB Z) Z) (E Z (B.rangeM Z Z un300 Z Z) (l2 (fun (seen:Array Nat) (kw:KV)=>[(8,.bref 9 0),(9,.mref 32),(32,.agg [.mref 1007,.mref 1107,.mref 1207]),(33,vI ((0:Nat):Int)),(37,.bref 38 0)]) (fun seen kw=>[(9,.box 302 [.mref 1007,.mref 1107,.mref 1207]),(32,.obj (jT kw)),(38,.miter 1007 (List.length (kvF (cF [] b))) seen),(1007,.obj (jT (kvF (cF [] b)))),(1107,.obj (jT (kvF (cF [] m)))),(1207,.obj (jT (kvF (cF [] t))))]) (fun seen kw=>InI (kvF (cF [] b)) (nmsK b m t 0) seen kw) (fun seen _=>unseen (List.length (kvF (cF [] b))) seen) (#[]) kv Z ?_ (sb Z Z Z) ?_))
   · exact in_start hI0.2
   intro seen kw hI1
   refine tk 7 Z ?_
   refine TK.nextM (Y:=tab) (kv:=(kvF (cF [] b))) Z Z Z Z Z (kvF_lit _) (fun i0 k0 v0 hk0 hi0=>?_) (fun hall=>?_)
   ·have hv0:=kvF_lit _ _ (List.mem_of_getElem? hk0)
    refine rc (CT Z Z (E Z (B.entryM Z Z Z hk0 hv0) (E Z (B.setMap Z Z Z Z un303 un9) (pk Z (L2 (Array.push seen i0) (Zq k0 (.bool true) kw) ?_ ?_ (sb Z Z Z))))))
    · exact in_step hI1 hk0 hi0
    · (have hq:=unseen_push (List.getElem?_eq_some_iff.1 hk0).1 hi0;omega)
   refine rc (CF Z Z (E Z (B.add Z Z (by unfold R64;omega)) (pk Z (L2 (0+1) kw ?_ ?_ (sb Z Z Z)))))
   · (exact⟨by omega,by have hq:=in_end hI1 hall;rw[kvF_names] at hq;exact hq⟩)
   · omega
  ·refine E Z (B.idxA (i:=1) Z Z un302 ag300 sz300 (nB Z) Z) (E Z (B.rangeM Z Z un300 Z Z) (l2 (fun (seen:Array Nat) (kw:KV)=>[(8,.bref 9 0),(9,.mref 32),(32,.agg [.mref 1007,.mref 1107,.mref 1207]),(33,vI ((1:Nat):Int)),(37,.bref 38 0)]) (fun seen kw=>[(9,.box 302 [.mref 1007,.mref 1107,.mref 1207]),(32,.obj (jT kw)),(38,.miter 1107 (List.length (kvF (cF [] m))) seen),(1007,.obj (jT (kvF (cF [] b)))),(1107,.obj (jT (kvF (cF [] m)))),(1207,.obj (jT (kvF (cF [] t))))]) (fun seen kw=>InI (kvF (cF [] m)) (nmsK b m t 1) seen kw) (fun seen _=>unseen (List.length (kvF (cF [] m))) seen) (#[]) kv Z ?_ (sb Z Z Z) ?_))
   · exact in_start hI0.2
   intro seen kw hI1
   refine tk 7 Z ?_
   refine TK.nextM (Y:=tab) (kv:=(kvF (cF [] m))) Z Z Z Z Z (kvF_lit _) (fun i0 k0 v0 hk0 hi0=>?_) (fun hall=>?_)
   ·have hv0:=kvF_lit _ _ (List.mem_of_getElem? hk0)
    refine rc (CT Z Z (E Z (B.entryM Z Z Z hk0 hv0) (E Z (B.setMap Z Z Z Z un303 un9) (pk Z (L2 (Array.push seen i0) (Zq k0 (.bool true) kw) ?_ ?_ (sb Z Z Z))))))
    · exact in_step hI1 hk0 hi0
    · (have hq:=unseen_push (List.getElem?_eq_some_iff.1 hk0).1 hi0;omega)
   refine rc (CF Z Z (E Z (B.add Z Z (by unfold R64;omega)) (pk Z (L2 (1+1) kw ?_ ?_ (sb Z Z Z)))))
   · (exact⟨by omega,by have hq:=in_end hI1 hall;rw[kvF_names] at hq;exact hq⟩)
   · omega
  refine E Z (B.idxA (i:=2) Z Z un302 ag300 sz300 (nB Z) Z) (E Z (B.rangeM Z Z un300 Z Z) (l2 (fun (seen:Array Nat) (kw:KV)=>[(8,.bref 9 0),(9,.mref 32),(32,.agg [.mref 1007,.mref 1107,.mref 1207]),(33,vI ((2:Nat):Int)),(37,.bref 38 0)]) (fun seen kw=>[(9,.box 302 [.mref 1007,.mref 1107,.mref 1207]),(32,.obj (jT kw)),(38,.miter 1207 (List.length (kvF (cF [] t))) seen),(1007,.obj (jT (kvF (cF [] b)))),(1107,.obj (jT (kvF (cF [] m)))),(1207,.obj (jT (kvF (cF [] t))))]) (fun seen kw=>InI (kvF (cF [] t)) (nmsK b m t 2) seen kw) (fun seen _=>unseen (List.length (kvF (cF [] t))) seen) (#[]) kv Z ?_ (sb Z Z Z) ?_))
  · exact in_start hI0.2
  intro seen kw hI1
  refine tk 7 Z ?_
  refine TK.nextM (Y:=tab) (kv:=(kvF (cF [] t))) Z Z Z Z Z (kvF_lit _) (fun i0 k0 v0 hk0 hi0=>?_) (fun hall=>?_)
  ·have hv0:=kvF_lit _ _ (List.mem_of_getElem? hk0)
   refine rc (CT Z Z (E Z (B.entryM Z Z Z hk0 hv0) (E Z (B.setMap Z Z Z Z un303 un9) (pk Z (L2 (Array.push seen i0) (Zq k0 (.bool true) kw) ?_ ?_ (sb Z Z Z))))))
   · exact in_step hI1 hk0 hi0
   · (have hq:=unseen_push (List.getElem?_eq_some_iff.1 hk0).1 hi0;omega)
  refine rc (CF Z Z (E Z (B.add Z Z (by unfold R64;omega)) (pk Z (L2 (2+1) kw ?_ ?_ (sb Z Z Z)))))
  · (exact⟨by omega,by have hq:=in_end hI1 hall;rw[kvF_names] at hq;exact hq⟩)
  · omega
 refine E Z (B.adopt 14 2 174 Z Z) (E Z (B.adopt 15 1 9 Z Z) ?_)
 have hk3:k=3:=by omega
 subst hk3
 have hks:=hI0.2
 have hkl:=kk_len hks hb hm ht
 refine E Z (B.kU (l:=[(32,.obj (jT kv))]) (keys_ok kv 32 1301 (by decide)) Z Z ⟨rfl,trivial⟩ rfl rfl) (E Z (B.kU (l:=[(1301,.box 303 [.mref 32]),(32,.obj (jT kv))]) (sorted_ok kv 32 1301 (by decide) hks.1 (kset_small hks hb hm ht).1 (kset_small hks hb hm ht).2) Z Z ⟨rfl,rfl,trivial⟩ rfl rfl) (E Z (B.jh Z ji) (l5 (fun (j:Nat) (vo:Nat) (out:List Fld) (vc:Nat) (con:List (List UInt8))=>[(8,.bref 9 0),(13,.aref 14 vo),(14,.aref 15 vc),(47,vL eN (keysOf kv)),(48,vI ((List.length (keysOf kv):Nat):Int)),(49,vI j)]) (fun _ vo out vc con=>[(9,.box 302 [.mref 1007,.mref 1107,.mref 1207]),(14,.arr vo 2 174 (List.map eF out)),(15,.arr vc 1 9 (List.map eN con)),(1007,.obj (jT (kvF (cF [] b)))),(1107,.obj (jT (kvF (cF [] m)))),(1207,.obj (jT (kvF (cF [] t))))]) (fun j vo out vc con=>j<=List.length (keysOf kv)/\out.length<=j/\con.length<=j/\(vo=out.length/\vc=con.length)/\mgo (cF [] b) (cF [] m) (cF [] t) (keysOf kv)=(out++(mgo (cF [] b) (cF [] m) (cF [] t) (List.drop j (keysOf kv))).1,con++(mgo (cF [] b) (cF [] m) (cF [] t) (List.drop j (keysOf kv))).2)) (fun j _ _ _ _=>List.length (keysOf kv)-j) 0 0 [] 0 [] Z ?_ (sb Z Z Z) ?_)))
 · exact⟨zq _,zz _,zz _,⟨rfl,rfl⟩,rfl⟩
 intro j vo out vc con hI2
 refine Cp Z Z (fun h2=>?_) (fun h2=>?_)
 ·refine E Z (B.idx (z:=[]) (i:=j) Z Z ji sz9 (fun _=>rfl) Z (by omega)) (l7 (fun (q:Nat) (a0:List UInt8) (b0:Bool) (a1:List UInt8) (b1:Bool) (a2:List UInt8) (b2:Bool)=>[(8,.bref 9 0),(13,.aref 14 vo),(14,.aref 15 vc),(16,vS (bsO (List.getD (keysOf kv) j []))),(17,.bref 18 0),(47,vL eN (keysOf kv)),(48,vI ((List.length (keysOf kv):Nat):Int)),(49,vI j),(53,.agg [.mref 1007,.mref 1107,.mref 1207]),(54,vI q)]) (fun _ a0 b0 a1 b1 a2 b2=>[(9,.box 302 [.mref 1007,.mref 1107,.mref 1207]),(14,.arr vo 2 174 (List.map eF out)),(15,.arr vc 1 9 (List.map eN con)),(18,.box 310 [vS (bsO a0),vB b0,vS (bsO a1),vB b1,vS (bsO a2),vB b2]),(1007,.obj (jT (kvF (cF [] b)))),(1107,.obj (jT (kvF (cF [] m)))),(1207,.obj (jT (kvF (cF [] t))))]) (fun q a0 b0 a1 b1 a2 b2=>q<=3/\(0<q->a0=Option.getD (jn (List.getD (keysOf kv) j []) (cF [] b)) []/\b0=Option.isSome (jn (List.getD (keysOf kv) j []) (cF [] b)))/\(1<q->a1=Option.getD (jn (List.getD (keysOf kv) j []) (cF [] m)) []/\b1=Option.isSome (jn (List.getD (keysOf kv) j []) (cF [] m)))/\(2<q->a2=Option.getD (jn (List.getD (keysOf kv) j []) (cF [] t)) []/\b2=Option.isSome (jn (List.getD (keysOf kv) j []) (cF [] t)))) (fun q _ _ _ _ _ _=>3-q) 0 [] false [] false [] false Z ?_ (sb Z Z Z) ?_)
  · exact⟨by omega,fun h=>absurd h (by omega),fun h=>absurd h (by omega),fun h=>absurd h (by omega)⟩
  intro q a0 b0 a1 b1 a2 b2 hI3
  refine Cp Z Z (fun h3=>?_) (fun h3=>?_)
  ·obtain rfl|rfl|rfl:q=0\/q=1\/q=2:=by omega
   ·refine E Z (B.idxA (i:=0) Z Z un302 ag300 sz300 (nB Z) Z) (E Z (B.getMapF Z Z Z un300 un9 in9 Z) (E Z (B.run Z) (E Z (B.run Z) (E Z (B.add Z Z (by unfold R64;omega)) (pk Z (L7 (0+1) (Option.getD (jn (List.getD (keysOf kv) j []) (cF [] b)) []) (Option.isSome (jn (List.getD (keysOf kv) j []) (cF [] b))) a1 b1 a2 b2 ?_ ?_ (sb Z Z Z)))))))
    · (refine⟨by omega,?_,?_,?_⟩<;>intro hq<;>first|exact⟨rfl,rfl⟩|exact hI3.2.2.1 (by omega)|exact hI3.2.2.2 (by omega))
    · omega
   ·refine E Z (B.idxA (i:=1) Z Z un302 ag300 sz300 (nB Z) Z) (E Z (B.getMapF Z Z Z un300 un9 in9 Z) (E Z (B.run Z) (E Z (B.run Z) (E Z (B.add Z Z (by unfold R64;omega)) (pk Z (L7 (1+1) a0 b0 (Option.getD (jn (List.getD (keysOf kv) j []) (cF [] m)) []) (Option.isSome (jn (List.getD (keysOf kv) j []) (cF [] m))) a2 b2 ?_ ?_ (sb Z Z Z)))))))
    · (refine⟨by omega,?_,?_,?_⟩<;>intro hq<;>first|exact⟨rfl,rfl⟩|exact hI3.2.1 (by omega)|exact hI3.2.2.2 (by omega))
    · omega
   refine E Z (B.idxA (i:=2) Z Z un302 ag300 sz300 (nB Z) Z) (E Z (B.getMapF Z Z Z un300 un9 in9 Z) (E Z (B.run Z) (E Z (B.run Z) (E Z (B.add Z Z (by unfold R64;omega)) (pk Z (L7 (2+1) a0 b0 a1 b1 (Option.getD (jn (List.getD (keysOf kv) j []) (cF [] t)) []) (Option.isSome (jn (List.getD (keysOf kv) j []) (cF [] t))) ?_ ?_ (sb Z Z Z)))))))
   · (refine⟨by omega,?_,?_,?_⟩<;>intro hq<;>first|exact⟨rfl,rfl⟩|exact hI3.2.1 (by omega)|exact hI3.2.2.1 (by omega))
   · omega
  have hq3:q=3:=by omega
  subst hq3
  obtain⟨rfl,rfl⟩:=hI3.2.1 (by omega)
  obtain⟨rfl,rfl⟩:=hI3.2.2.1 (by omega)
  obtain⟨rfl,rfl⟩:=hI3.2.2.2 (by omega)
  refine E Z (B.run Z) (E Z (B.run Z) (E Z (B.run Z) (Dr Z (by kernel_rfl) (E Z (B.steql Z Z fe309) (Cb Z Z (fun h4=>?_) (fun h4=>?_))))))
  ·refine Cb Z Z (fun h5=>?_) (fun h5=>?_)
   ·refine Cb Z Z (fun h6=>?_) (fun h6=>?_)
    ·refine E Z (B.jj (val:=.pv (.slice (List.map eF [((List.getD (keysOf kv) j []),(Option.getD (jn (List.getD (keysOf kv) j []) (cF [] m)) []))]))) Z (fun l=>Frz.arr l _ _ _ _ _) Z) (E Z (B.append Z Z Z un59 in174 Z (fun _=>rfl) by174 (by (have h7:=hI2.2.1;have h8:=hI2.2.2.1;have h9:=kk_len hks hb hm ht;simp only[za,zb,zd];omega))) (E Z (B.add Z Z (by unfold R64;omega)) (pk Z (L5 (j+1) (vo+1) (out++[((List.getD (keysOf kv) j []),(Option.getD (jn (List.getD (keysOf kv) j []) (cF [] m)) []))]) vc con ?_ ?_ (sb Z Z Z)))))
     · (refine⟨by omega,by (simp only[za,zb,zd];omega),by omega,by (have h5:=hI2.2.2.2.1;simp only[za,zb,zd];omega),?_⟩;rw[hI2.2.2.2.2,drop_at (keysOf kv) j [] (by omega),mgo];clear hI2 hI0 hks hI3;simp_all [kV])
     · omega
    refine E Z (B.add Z Z (by unfold R64;omega)) (pk Z (L5 (j+1) vo out vc con ?_ ?_ (sb Z Z Z)))
    · (refine⟨by omega,by omega,by omega,by exact hI2.2.2.2.1,?_⟩;rw[hI2.2.2.2.2,drop_at (keysOf kv) j [] (by omega),mgo];clear hI2 hI0 hks hI3;simp_all [kV])
    · omega
   refine E Z (B.steql Z Z fe309) (Cb Z Z (fun h7=>?_) (fun h7=>?_))
   ·refine Cb Z Z (fun h8=>?_) (fun h8=>?_)
    ·refine E Z (B.jj (val:=.pv (.slice (List.map eF [((List.getD (keysOf kv) j []),(Option.getD (jn (List.getD (keysOf kv) j []) (cF [] t)) []))]))) Z (fun l=>Frz.arr l _ _ _ _ _) Z) (E Z (B.append Z Z Z un59 in174 Z (fun _=>rfl) by174 (by (have h7:=hI2.2.1;have h8:=hI2.2.2.1;have h9:=kk_len hks hb hm ht;simp only[za,zb,zd];omega))) (E Z (B.add Z Z (by unfold R64;omega)) (pk Z (L5 (j+1) (vo+1) (out++[((List.getD (keysOf kv) j []),(Option.getD (jn (List.getD (keysOf kv) j []) (cF [] t)) []))]) vc con ?_ ?_ (sb Z Z Z)))))
     · (refine⟨by omega,by (simp only[za,zb,zd];omega),by omega,by (have h5:=hI2.2.2.2.1;simp only[za,zb,zd];omega),?_⟩;rw[hI2.2.2.2.2,drop_at (keysOf kv) j [] (by omega),mgo];clear hI2 hI0 hks hI3;simp_all [kV])
     · omega
    refine E Z (B.add Z Z (by unfold R64;omega)) (pk Z (L5 (j+1) vo out vc con ?_ ?_ (sb Z Z Z)))
    · (refine⟨by omega,by omega,by omega,by exact hI2.2.2.2.1,?_⟩;rw[hI2.2.2.2.2,drop_at (keysOf kv) j [] (by omega),mgo];clear hI2 hI0 hks hI3;simp_all [kV])
    · omega
   refine E Z (B.jj (val:=.pv (.slice (List.map eN [(List.getD (keysOf kv) j [])]))) Z (fun l=>Frz.arr l _ _ _ _ _) Z) (E Z (B.append Z Z Z ji in9 Z (fun _=>rfl) by9 (by (have h7:=hI2.2.1;have h8:=hI2.2.2.1;have h9:=kk_len hks hb hm ht;simp only[za,zb,zd];omega))) (E Z (B.add Z Z (by unfold R64;omega)) (pk Z (L5 (j+1) vo out (vc+1) (con++[(List.getD (keysOf kv) j [])]) ?_ ?_ (sb Z Z Z)))))
   · (refine⟨by omega,by omega,by (simp only[za,zb,zd];omega),by (have h5:=hI2.2.2.2.1;simp only[za,zb,zd];omega),?_⟩;rw[hI2.2.2.2.2,drop_at (keysOf kv) j [] (by omega),mgo];clear hI2 hI0 hks hI3;simp_all [kV])
   · omega
  refine E Z (B.steql Z Z fe309) (Cb Z Z (fun h9=>?_) (fun h9=>?_))
  ·refine Cb Z Z (fun h10=>?_) (fun h10=>?_)
   ·refine E Z (B.jj (val:=.pv (.slice (List.map eF [((List.getD (keysOf kv) j []),(Option.getD (jn (List.getD (keysOf kv) j []) (cF [] m)) []))]))) Z (fun l=>Frz.arr l _ _ _ _ _) Z) (E Z (B.append Z Z Z un59 in174 Z (fun _=>rfl) by174 (by (have h7:=hI2.2.1;have h8:=hI2.2.2.1;have h9:=kk_len hks hb hm ht;simp only[za,zb,zd];omega))) (E Z (B.add Z Z (by unfold R64;omega)) (pk Z (L5 (j+1) (vo+1) (out++[((List.getD (keysOf kv) j []),(Option.getD (jn (List.getD (keysOf kv) j []) (cF [] m)) []))]) vc con ?_ ?_ (sb Z Z Z)))))
    · (refine⟨by omega,by (simp only[za,zb,zd];omega),by omega,by (have h5:=hI2.2.2.2.1;simp only[za,zb,zd];omega),?_⟩;rw[hI2.2.2.2.2,drop_at (keysOf kv) j [] (by omega),mgo];clear hI2 hI0 hks hI3;simp_all [kV])
    · omega
   refine E Z (B.add Z Z (by unfold R64;omega)) (pk Z (L5 (j+1) vo out vc con ?_ ?_ (sb Z Z Z)))
   · (refine⟨by omega,by omega,by omega,by exact hI2.2.2.2.1,?_⟩;rw[hI2.2.2.2.2,drop_at (keysOf kv) j [] (by omega),mgo];clear hI2 hI0 hks hI3;simp_all [kV])
   · omega
  refine E Z (B.steql Z Z fe309) (Cb Z Z (fun h11=>?_) (fun h11=>?_))
  ·refine Cb Z Z (fun h12=>?_) (fun h12=>?_)
   ·refine E Z (B.jj (val:=.pv (.slice (List.map eF [((List.getD (keysOf kv) j []),(Option.getD (jn (List.getD (keysOf kv) j []) (cF [] t)) []))]))) Z (fun l=>Frz.arr l _ _ _ _ _) Z) (E Z (B.append Z Z Z un59 in174 Z (fun _=>rfl) by174 (by (have h7:=hI2.2.1;have h8:=hI2.2.2.1;have h9:=kk_len hks hb hm ht;simp only[za,zb,zd];omega))) (E Z (B.add Z Z (by unfold R64;omega)) (pk Z (L5 (j+1) (vo+1) (out++[((List.getD (keysOf kv) j []),(Option.getD (jn (List.getD (keysOf kv) j []) (cF [] t)) []))]) vc con ?_ ?_ (sb Z Z Z)))))
    · (refine⟨by omega,by (simp only[za,zb,zd];omega),by omega,by (have h5:=hI2.2.2.2.1;simp only[za,zb,zd];omega),?_⟩;rw[hI2.2.2.2.2,drop_at (keysOf kv) j [] (by omega),mgo];clear hI2 hI0 hks hI3;simp_all [kV])
    · omega
   refine E Z (B.add Z Z (by unfold R64;omega)) (pk Z (L5 (j+1) vo out vc con ?_ ?_ (sb Z Z Z)))
   · (refine⟨by omega,by omega,by omega,by exact hI2.2.2.2.1,?_⟩;rw[hI2.2.2.2.2,drop_at (keysOf kv) j [] (by omega),mgo];clear hI2 hI0 hks hI3;simp_all [kV])
   · omega
  refine E Z (B.jj (val:=.pv (.slice (List.map eN [(List.getD (keysOf kv) j [])]))) Z (fun l=>Frz.arr l _ _ _ _ _) Z) (E Z (B.append Z Z Z ji in9 Z (fun _=>rfl) by9 (by (have h7:=hI2.2.1;have h8:=hI2.2.2.1;have h9:=kk_len hks hb hm ht;simp only[za,zb,zd];omega))) (E Z (B.add Z Z (by unfold R64;omega)) (pk Z (L5 (j+1) vo out (vc+1) (con++[(List.getD (keysOf kv) j [])]) ?_ ?_ (sb Z Z Z)))))
  · (refine⟨by omega,by omega,by (simp only[za,zb,zd];omega),by (have h5:=hI2.2.2.2.1;simp only[za,zb,zd];omega),?_⟩;rw[hI2.2.2.2.2,drop_at (keysOf kv) j [] (by omega),mgo];clear hI2 hI0 hks hI3;simp_all [kV])
  · omega
 refine Rt Z ?_
 have hz:=hI2.2.2.2.2
 rw[zX (by omega),keys_srt hks] at hz
 have h5:=hI2.2.2.2.1
 have hr:mgR b m t=(out,con):=by simpa [mgR,mgo] using hz
 exact leafM (val0:=.tup [.aref 14 vo,.aref 15 vc]) (out0:=[(15,.arr vc 1 9 (List.map eN con)),(14,.arr vo 2 174 (List.map eF out))]) (by kernel_rfl) (by rw[hr,h5.1,h5.2]) (by rw[hr,h5.1,h5.2])
end Go.Lens.Tm
end
section
namespace Go.Lens.Tm
open Go.Lens.Tb Go.Proofs
variable [Lz]
def allLit (ps:List PV):Prop:=∀ p∈ps,∃ u,p=.lit u
theorem RelVals_lit {R R':Rd}:∀ {ps:List PV} {vs:List Value},allLit ps->qA R ps vs->qA R' ps vs
 | [],vs,_,h=>by simpa only[qA] using h
 | p::ps,vs,hl,h=>by
  simp only[qA] at h ⊢
  obtain⟨v,vs',rfl,h1,h2⟩:=h
  refine⟨v,vs',rfl,?_,RelVals_lit (fun q hq=>hl q (zO _ hq)) h2⟩
  obtain⟨u,rfl⟩:=hl p (by simp)
  simpa only[qN] using h1
theorem newRow {G G0 G1:Gh} {w w':World} {L:Nat->Option MO} {h v esz:Nat} {T:TypeId} {es:List (List PV)} {r:Value} (M:Z4 G L w) (hR:jc G1 w' h (.arr v esz T es)) (hv:qz G1 (G1.rd w') (.aref h v) r)
  (hn:∀ b k,G1.γ b=some k->G0.γ b=some k\/w.heap.size<=b) (h0:∀ b,G0.γ b=none) (hlit:allLit es.flatten):qz G (G.rd w') (.pv (.slice es)) r:=by
 simp only[jc] at hR
 obtain⟨k1,k2,k3,k4,k5,k6,k7⟩:=hR
 simp only[qz] at hv
 have hr:=hv.2 k2
 simp only[qz,qN]
 rcases k7 with ⟨e1,e2⟩|⟨b,cc,e1,e2,e3,e4,e5,e6,e7⟩
 ·refine⟨_,_,by rw[hr,k4],k5,.inl (zL (by omega))⟩
 refine⟨_,_,by rw[hr,k4],k5,.inr ⟨b,0,esz,e1,qQ.mk k6 (RelVals_lit hlit e7) e6 (fun j u hj=>?_)⟩⟩
 have hb:w.heap.size<=b:=by
  rcases hn _ _ e2 with e|e
  ·rw[h0] at e;cases e
  exact e
 have hγ:G.γ b=none:=by
  cases hq:G.γ b with
  | none=>rfl
  | some k=>have:=M.fresh _ _ hq;omega
 have hbase:¬b<G.base:=by have:=M.baseLe;omega
 rw[qo] at hj
 split at hj
 ·simp only[Gh.rd,if_neg hbase,hγ,qq,Nat.zero_add]
  simp only[World.cell?,e3]
  simpa using hj
 cases hj
theorem lit_eF (l:List Fld):allLit (l.map eF).flatten:=by
 intro p hp
 obtain⟨c,hc,hp⟩:=List.mem_flatten.1 hp
 obtain⟨q,_,rfl⟩:=zE.1 hc
 simp only[eF,zF,qn,or_false] at hp
 rcases hp with rfl|rfl<;>exact⟨_,rfl⟩
theorem lit_eN (l:List (List UInt8)):allLit (l.map eN).flatten:=by
 intro p hp
 obtain⟨c,hc,hp⟩:=List.mem_flatten.1 hp
 obtain⟨q,_,rfl⟩:=zE.1 hc
 simp only[eN,zF,qn,or_false] at hp
 subst hp;exact⟨_,rfl⟩
theorem upd_one (k:Nat) (o:MO) (look:Nat->Option MO) (h:Nat):upd [(k,o)] look h=if k=h then some o else look h:=by
 unfold upd ja
 by_cases e:k=h
 ·simp[e]
 simp[e,ja]
theorem frz_stays:∀ (hs:List Nat) {look:Nat->Option MO} {h v:Nat} {es:List (List PV)},look h=some (.farr v es)->upd (frzU look hs) look h=some (.farr v es)
 | [],look,h,v,es,e=>by simpa [frzU,upd,ja] using e
 | k::hs,look,h,v,es,e=>by
  simp only[frzU]
  cases hf:ky look k with
  | none=>exact frz_stays hs e
  | some o=>
   simp only[]
   rw[upd_mrg]
   refine frz_stays hs ?_
   rw[upd_one]
   split
   ·rename_i hk
    subst hk
    unfold ky at hf
    rw[e] at hf
    cases hf
   exact e
theorem frz_arr:∀ (hs:List Nat) {look:Nat->Option MO} {h v sz:Nat} {T:TypeId} {es:List (List PV)},h∈hs->look h=some (.arr v sz T es)->upd (frzU look hs) look h=some (.farr v es)
 | [],_,_,_,_,_,_,hm,_=>by cases hm
 | k::hs,look,h,v,sz,T,es,hm,e=>by
  simp only[frzU]
  by_cases hk:k=h
  ·subst hk
   have hf:ky look k=some (.farr v es):=by unfold ky;rw[e]
   rw[hf]
   simp only[]
   rw[upd_mrg]
   exact frz_stays hs (by rw[upd_one,if_pos rfl])
  have hm':h∈hs:=by
   rcases zF.1 hm with e|e
   ·exact absurd e.symm hk
   exact e
  cases hf:ky look k with
  | none=>exact frz_arr hs hm' e
  | some o=>
   simp only[]
   rw[upd_mrg]
   exact frz_arr hs hm' (by rw[upd_one,if_neg hk];exact e)
theorem conts_pv {hs:List Nat} {look:Nat->Option MO} {x:DV} {es:List (List PV)} (hc:conts look x=some es) (hr:∀ h∈x.refs,h∈hs):pvOf (upd (frzU look hs) look) x=some (.slice es):=by
 unfold conts at hc
 split at hc
 ·cases hc;rfl
 ·cases hc;rfl
 ·rename_i h v
  have hm:h∈hs:=hr h (by simp[DV.refs])
  split at hc
  ·rename_i v' sz T es' hl
   split at hc
   ·rename_i e;cases hc
    simp only[pvOf,frz_arr hs hm hl,e,qq]
   cases hc
  ·rename_i v' es' hl
   split at hc
   ·rename_i e;cases hc
    simp only[pvOf,frz_stays hs hl,e,qq]
   cases hc
  cases hc
 ·rename_i h v k
  have hm:h∈hs:=hr h (by simp[DV.refs])
  split at hc
  ·rename_i v' sz T es' hl
   split at hc
   ·rename_i e;cases hc
    simp only[pvOf,frz_arr hs hm hl,e,qq]
   cases hc
  ·rename_i v' es' hl
   split at hc
   ·rename_i e;cases hc
    simp only[pvOf,frz_stays hs hl,e,qq]
   cases hc
  cases hc
 cases hc
theorem conts_refs {look:Nat->Option MO} {x:DV} {es:List (List PV)} (hc:conts look x=some es):∀ h∈x.refs,∃ o,look h=some o:=by
 intro h hh
 unfold conts at hc
 split at hc
 ·simp[DV.refs] at hh
 ·simp[DV.refs] at hh
 ·simp only[DV.refs,zg] at hh
  subst hh
  split at hc
  ·rename_i hl;exact⟨_,hl⟩
  ·rename_i hl;exact⟨_,hl⟩
  cases hc
 ·simp only[DV.refs,zg] at hh
  subst hh
  split at hc
  ·rename_i hl;exact⟨_,hl⟩
  ·rename_i hl;exact⟨_,hl⟩
  cases hc
 cases hc
theorem flds_eF:∀ {a:List (List PV)} {A:List Fld},fldsOf a=some A->a=List.map eF A
 | [],A,h=>by simp only[fldsOf,zh] at h;subst h;rfl
 | c::l,A,h=>by
  unfold fldsOf at h
  split at h
  ·rename_i hq;cases hq
  ·rename_i a b l' hq
   cases hq
   split at h
   ·rename_i r hr
    cases h
    rw[flds_eF hr]
    rfl
   cases h
  cases h
theorem merge_ok:kB Tryz.prog (mergeO 121):=by
 intro f lo ds l val ms h
 unfold mergeO at h
 cases hf:Nat.beq f 121 with
 | false=>rw[hf] at h;cases h
 | true=>
 have:=zC hf;subst this
 rw[hf] at h
 simp only[cond_true] at h
 split at h
 ·rename_i x y z
  split at h
  ·rename_i a b c ha hb hc
   split at h
   ·rename_i A B C hA hB hC
    cases hq:(ascB A&&ascB B&&ascB C&&(smallB A&&smallB B&&smallB C)) with
    | false=>rw[hq] at h;cases h
    | true=>
    rw[hq] at h
    simp only[cond_true,zh,zu] at h
    obtain⟨rfl,rfl⟩:=h
    simp only[zj] at hq
    obtain⟨⟨⟨a1,a2⟩,a3⟩,⟨b1,b2⟩,b3⟩:=hq
    have hrefs:∀ k∈DV.qT [x,y,z],∃ o,qx l k=some o:=by
     intro k hk
     simp only[DV.qT,zS,zI] at hk
     rcases hk with hk|hk|hk
     ·exact conts_refs ha k hk
     ·exact conts_refs hb k hk
     exact conts_refs hc k hk
    refine⟨hrefs,fun G w vs M hv=>?_⟩
    obtain⟨G1,S1⟩:=Zr (DV.qT [x,y,z]) M
    have M1:=M.out S1
    have hv1:qD G1 (G1.rd w) [x,y,z] vs.toList:=qD.mono S1.later.rd _ _ (fun k hk=>by obtain⟨o,ho⟩:=hrefs k hk;exact S1.keeps k o ho) hv
    simp only[qD] at hv1
    obtain⟨vx,_,e1,hx,vy,_,rfl,hy,vz,_,rfl,hz,rfl⟩:=hv1
    have hvs:vs= #[vx,vy,vz]:=by rw[<-Array.toArray_toList (xs:=vs),e1]
    have px:=qN.mono (part_le M1 (l:=qx [])) _ _ (jm (fun k m hk=>M1.ms k m hk) (conts_pv (hs:=DV.qT [x,y,z]) ha (fun k hk=>by simp[DV.qT,hk])) hx)
    have py:=qN.mono (part_le M1 (l:=qx [])) _ _ (jm (fun k m hk=>M1.ms k m hk) (conts_pv (hs:=DV.qT [x,y,z]) hb (fun k hk=>by simp[DV.qT,hk])) hy)
    have pz:=qN.mono (part_le M1 (l:=qx [])) _ _ (jm (fun k m hk=>M1.ms k m hk) (conts_pv (hs:=DV.qT [x,y,z]) hc (fun k hk=>by simp[DV.qT,hk])) hz)
    rw[flds_eF hA] at px;rw[flds_eF hB] at py;rw[flds_eF hC] at pz
    have M0:Z4 (G1.part w (qx [])) (qx []) w:=M1.part (fun h o e=>by cases e) (fun k o h e=>by cases e)
    have hg0:∀ b,(G1.part w (qx [])).γ b=none:=by
     intro b
     show (match G1.γ b with|some h=>if (qx [] h).isSome then some h else none|none=>none)=none
     split
     ·rfl
     rfl
    have H:=w121 A B C (small_of b1) (small_of b2) (small_of b3)
    have hargs:qD (G1.part w (qx [])) ((G1.part w (qx [])).rd w) [.pv (.slice (List.map eF A)),.pv (.slice (List.map eF B)),.pv (.slice (List.map eF C))] vs.toList:=by
     rw[hvs]
     simp only[qD,qz]
     exact⟨vx,_,rfl,px,vy,_,rfl,py,vz,_,rfl,pz,rfl⟩
    refine CallsAs.mono (H.call _ w vs M0 hargs) ?_
    rintro r w' ⟨G2,S⟩
    refine⟨G,jS M.ctx S.later.os S.later.tape S.later.output S.later.size (fun b hb=>(S.later.cold b hb (hg0 b)).1) ?_ rfl⟩
    have hval:=S.hval
    simp only[qz,qD] at hval
    obtain⟨vs2,rfl,v1,_,e2,h1,v2,_,rfl,h2,rfl⟩:=hval
    have m14:jc G2 w' 14 (.arr (mgR A B C).1.length 2 174 (List.map eF (mgR A B C).1)):=S.hms 14 _ (zO _ (zg.2 Z))
    have m15:jc G2 w' 15 (.arr (mgR A B C).2.length 1 9 (List.map eN (mgR A B C).2)):=S.hms 15 _ qm
    have r1:=newRow (T:=174) (esz:=2) (es:=List.map eF (mgR A B C).1) M m14 (by simp only[qz];exact h1) S.newb hg0 (lit_eF _)
    have r2:=newRow (T:=9) (esz:=1) (es:=List.map eN (mgR A B C).2) M m15 (by simp only[qz];exact h2) S.newb hg0 (lit_eN _)
    rw[merge_mgR a1 a2 a3] at r1 r2
    simp only[qz,qD]
    refine⟨vs2,rfl,v1,_,e2,by simp only[qz] at r1;exact r1,v2,_,rfl,by simp only[qz] at r2;exact r2,rfl⟩
   cases h
  cases h
 cases h
end Go.Lens.Tm
end
namespace Go.Lens.Tb
open Go.Proofs
abbrev CKa[Lz](f:FuncId)(ds:List DV)(val:DV):Prop:=q6 Tryz.prog f ds (qx []) val []
abbrev HMa[Lz]:Prop:=kB Tryz.prog (mergeO 121)
end Go.Lens.Tb
