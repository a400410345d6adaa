/- A part of the proof that NightLogsCardSaid holds, without conditions. -/
import Derived.Shelf.LaysC
import Derived.Shelf.Strconv.ErrVarAll
import Derived.Test.YtomghboflcafbaaGreatDoorProg
import Derived.Test.YtomghboflcafbaaGreatDoorL1
import Derived.Lib.AtoiErrMem
import Derived.Test.YtomghboflcafbaaGreatDoorS10
set_option linter.unusedVariables false
set_option linter.unusedSimpArgs false
section
namespace Go.Proofs
open Go.Shelf
def Tryz.laysC172_ren:Go.Shelf.Ren:=⟨fun|172=>256|244=>297|245=>298|247=>327|279=>328|280=>329|281=>330|282=>331|287=>349|316=>350|171=>185|205=>351|321=>357|322=>358|243=>255|246=>296|283=>323|284=>324|285=>325|286=>326|129=>322|317=>345|318=>346|319=>347|320=>348|337=>355|338=>356|n=>n,fun|9=>9|3=>3|75=>273|76=>274|4=>4|5=>5|167=>411|37=>150|0=>0|85=>412|2=>2|168=>414|53=>406|175=>436|46=>378|210=>439|127=>333|145=>447|143=>445|21=>21|171=>407|173=>409|212=>434|51=>394|20=>20|213=>435|232=>448|233=>449|80=>145|n=>n,fun|15=>4|16=>5|17=>3|18=>6|19=>7|n=>n⟩
theorem Tryz.laysC172:Go.Proofs.LaysC.n172 Tryz.prog Tryz.laysC172_ren:={
  mixed:=by kernel_rfl
  f129:=Tryz.func322.trans (congrArg some (by kernel_rfl))
  f171:=Tryz.func185.trans (congrArg some (by kernel_rfl))
  f172:=Tryz.func256.trans (congrArg some (by kernel_rfl))
  f205:=Tryz.func351.trans (congrArg some (by kernel_rfl))
  f243:=Tryz.func255.trans (congrArg some (by kernel_rfl))
  f244:=Tryz.func297.trans (congrArg some (by kernel_rfl))
  f245:=Tryz.func298.trans (congrArg some (by kernel_rfl))
  f246:=Tryz.func296.trans (congrArg some (by kernel_rfl))
  f247:=Tryz.func327.trans (congrArg some (by kernel_rfl))
  f279:=Tryz.func328.trans (congrArg some (by kernel_rfl))
  f280:=Tryz.func329.trans (congrArg some (by kernel_rfl))
  f281:=Tryz.func330.trans (congrArg some (by kernel_rfl))
  f282:=Tryz.func331.trans (congrArg some (by kernel_rfl))
  f283:=Tryz.func323.trans (congrArg some (by kernel_rfl))
  f284:=Tryz.func324.trans (congrArg some (by kernel_rfl))
  f285:=Tryz.func325.trans (congrArg some (by kernel_rfl))
  f286:=Tryz.func326.trans (congrArg some (by kernel_rfl))
  f287:=Tryz.func349.trans (congrArg some (by kernel_rfl))
  f316:=Tryz.func350.trans (congrArg some (by kernel_rfl))
  f317:=Tryz.func345.trans (congrArg some (by kernel_rfl))
  f318:=Tryz.func346.trans (congrArg some (by kernel_rfl))
  f319:=Tryz.func347.trans (congrArg some (by kernel_rfl))
  f320:=Tryz.func348.trans (congrArg some (by kernel_rfl))
  f321:=Tryz.func357.trans (congrArg some (by kernel_rfl))
  f322:=Tryz.func358.trans (congrArg some (by kernel_rfl))
  f337:=Tryz.func355.trans (congrArg some (by kernel_rfl))
  f338:=Tryz.func356.trans (congrArg some (by kernel_rfl))
  t0:=Tryz.underlying0
  a0:=Tryz.isAgg0
  z0:=Tryz.sizeOf0
  v0:=Tryz.zeroValue0
  t2:=Tryz.underlying2
  a2:=Tryz.isAgg2
  z2:=Tryz.sizeOf2
  v2:=Tryz.zeroValue2
  t3:=Tryz.underlying3
  a3:=Tryz.isAgg3
  z3:=Tryz.sizeOf3
  v3:=Tryz.zeroValue3
  t4:=Tryz.underlying4
  a4:=Tryz.isAgg4
  z4:=Tryz.sizeOf4
  v4:=Tryz.zeroValue4
  t5:=Tryz.underlying5
  a5:=Tryz.isAgg5
  z5:=Tryz.sizeOf5
  v5:=Tryz.zeroValue5
  t9:=Tryz.underlying9
  a9:=Tryz.isAgg9
  z9:=Tryz.sizeOf9
  v9:=Tryz.zeroValue9
  t20:=Tryz.underlying20
  a20:=Tryz.isAgg20
  z20:=Tryz.sizeOf20
  v20:=Tryz.zeroValue20
  t21:=Tryz.underlying21
  a21:=Tryz.isAgg21
  z21:=Tryz.sizeOf21
  v21:=Tryz.zeroValue21
  t37:=Tryz.underlying150
  a37:=Tryz.isAgg150
  z37:=Tryz.sizeOf150
  v37:=Tryz.zeroValue150
  t46:=Tryz.underlying378
  a46:=Tryz.isAgg378
  z46:=Tryz.sizeOf378
  v46:=Tryz.zeroValue378
  t51:=Tryz.underlying394
  a51:=Tryz.isAgg394
  z51:=Tryz.sizeOf394
  v51:=Tryz.zeroValue394
  t53:=Tryz.underlying406
  a53:=Tryz.isAgg406
  z53:=Tryz.sizeOf406
  v53:=Tryz.zeroValue406
  t75:=Tryz.underlying273
  a75:=Tryz.isAgg273
  z75:=Tryz.sizeOf273
  v75:=Tryz.zeroValue273
  t76:=Tryz.underlying274
  a76:=Tryz.isAgg274
  z76:=Tryz.sizeOf274
  v76:=Tryz.zeroValue274
  t85:=Tryz.underlying412
  a85:=Tryz.isAgg412
  z85:=Tryz.sizeOf412
  v85:=Tryz.zeroValue412
  t127:=Tryz.underlying333
  a127:=Tryz.isAgg333
  z127:=Tryz.sizeOf333
  v127:=Tryz.zeroValue333
  t143:=Tryz.underlying445
  a143:=Tryz.isAgg445
  z143:=Tryz.sizeOf445
  v143:=Tryz.zeroValue445
  t145:=Tryz.underlying447
  a145:=Tryz.isAgg447
  z145:=Tryz.sizeOf447
  v145:=Tryz.zeroValue447
  t167:=Tryz.underlying411
  a167:=Tryz.isAgg411
  z167:=Tryz.sizeOf411
  v167:=Tryz.zeroValue411
  t168:=Tryz.underlying414
  a168:=Tryz.isAgg414
  z168:=Tryz.sizeOf414
  v168:=Tryz.zeroValue414
  t171:=Tryz.underlying407
  a171:=Tryz.isAgg407
  z171:=Tryz.sizeOf407
  v171:=Tryz.zeroValue407
  t173:=Tryz.underlying409
  a173:=Tryz.isAgg409
  z173:=Tryz.sizeOf409
  v173:=Tryz.zeroValue409
  t175:=Tryz.underlying436
  a175:=Tryz.isAgg436
  z175:=Tryz.sizeOf436
  v175:=Tryz.zeroValue436
  t210:=Tryz.underlying439
  a210:=Tryz.isAgg439
  z210:=Tryz.sizeOf439
  v210:=Tryz.zeroValue439
  t212:=Tryz.underlying434
  a212:=Tryz.isAgg434
  z212:=Tryz.sizeOf434
  v212:=Tryz.zeroValue434
  t213:=Tryz.underlying435
  a213:=Tryz.isAgg435
  z213:=Tryz.sizeOf435
  t232:=Tryz.underlying448
  a232:=Tryz.isAgg448
  z232:=Tryz.sizeOf448
  v232:=Tryz.zeroValue448
  t233:=Tryz.underlying449
  a233:=Tryz.isAgg449
  z233:=Tryz.sizeOf449
  v233:=Tryz.zeroValue449
  g15:=by kernel_rfl
  g16:=by kernel_rfl
  g17:=by kernel_rfl
  g18:=by kernel_rfl
  g19:=by kernel_rfl
  t80:=Tryz.underlying145
  a80:=Tryz.isAgg145
  z80:=Tryz.sizeOf145
  v80:=Tryz.zeroValue145
  i0:=by kernel_rfl
  i2:=by kernel_rfl
  i3:=by kernel_rfl
  i4:=by kernel_rfl
  i5:=by kernel_rfl
  i9:=by kernel_rfl
  i20:=by kernel_rfl
  i21:=by kernel_rfl
  i37:=by kernel_rfl
  i46:=by kernel_rfl
  i51:=by kernel_rfl
  i53:=by kernel_rfl
  i75:=by kernel_rfl
  i76:=by kernel_rfl
  i80:=by kernel_rfl
  i85:=by kernel_rfl
  i127:=by kernel_rfl
  i143:=by kernel_rfl
  i145:=by kernel_rfl
  i167:=by kernel_rfl
  i168:=by kernel_rfl
  i171:=by kernel_rfl
  i173:=by kernel_rfl
  i175:=by kernel_rfl
  i210:=by kernel_rfl
  i212:=by kernel_rfl
  i232:=by kernel_rfl
  i233:=by kernel_rfl
  m15:=by kernel_rfl
  m16:=by kernel_rfl
  m17:=by kernel_rfl
  m18:=by kernel_rfl
  m19:=by kernel_rfl
  c0:=by kernel_rfl
  c2:=by kernel_rfl
  c3:=by kernel_rfl
  c4:=by kernel_rfl
  c5:=by kernel_rfl
  c9:=by kernel_rfl
  c20:=by kernel_rfl
  c21:=by kernel_rfl
  c37:=by kernel_rfl
  c46:=by kernel_rfl
  c51:=by kernel_rfl
  c53:=by kernel_rfl
  c75:=by kernel_rfl
  c76:=by kernel_rfl
  c80:=by kernel_rfl
  c85:=by kernel_rfl
  c127:=by kernel_rfl
  c143:=by kernel_rfl
  c145:=by kernel_rfl
  c167:=by kernel_rfl
  c168:=by kernel_rfl
  c171:=by kernel_rfl
  c173:=by kernel_rfl
  c175:=by kernel_rfl
  c210:=by kernel_rfl
  c212:=by kernel_rfl
  c213:=by kernel_rfl
  c232:=by kernel_rfl
  c233:=by kernel_rfl }
open Go.RowKit in
theorem Tryz.strconv_Atoi_ok (s:ByteArray) (hmax:s.size≤9223372036854775806) (v:Int) (h:Lib.atoiAll s.data.toList=.ok v) (w:World) :
    Calls Tryz.prog 256 #[.string s] w fun e w'=>e=.returned (.tuple #[.int .i64 v,.nilIface])∧(w'=w∨∃ t,w'=Lib.bytesWorld w 5 t):=Any.strconv_Atoi_ok Tryz.laysC172 s hmax v h w
open Go.RowKit in
theorem Tryz.strconv_Atoi_form_var (s:ByteArray) (hlim:s.size≤281474976710656) (hok:∀ v,Lib.atoiAll s.data.toList≠.ok v) (hr:Lib.atoiAll s.data.toList≠.range) (tp:TypeId) (p:Value) (w:World) (hvar:w.var? Tryz.prog "strconv.ErrSyntax" =some #[.iface tp p]) :
    Calls Tryz.prog 256 #[.string s] w fun e w'=>∃ N,e=.returned (.tuple #[.int .i64 0,.iface 414 (.pointer (some ⟨N,0,none⟩))])∧w.heap.size≤N∧w'.heap[N]? =some (.cells #[.string ⟨#[65,116,111,105]⟩,.string s,.iface tp p] 439 (0,0))∧Below w.heap.size w w':=by
  cases h:Lib.atoiAll s.data.toList
  · exact absurd h (hok _)
  · exact Any.strconv_Atoi_syntax_var Tryz.laysC172 s hlim h tp p w hvar
  · exact absurd h hr
open Go.RowKit in
theorem Tryz.strconv_Atoi_range_var (s:ByteArray) (hlim:s.size≤281474976710656) (h:Lib.atoiAll s.data.toList=.range) (tp:TypeId) (p:Value) (w:World) (hvar:w.var? Tryz.prog "strconv.ErrRange" =some #[.iface tp p]) :
    Calls Tryz.prog 256 #[.string s] w fun e w'=>∃ N,e=.returned (.tuple #[.int .i64 (Lib.atoiSat s.data.toList),.iface 414 (.pointer (some ⟨N,0,none⟩))])∧w.heap.size≤N∧w'.heap[N]? =some (.cells #[.string ⟨#[65,116,111,105]⟩,.string s,.iface tp p] 439 (0,0))∧Below w.heap.size w w':=Any.strconv_Atoi_range_var Tryz.laysC172 s hlim h tp p w hvar
end Go.Proofs
end
section
namespace Go.Lens.Tm
open Go.Lens.Tb Go.Proofs Go.RowKit
set_option linter.unusedSectionVars false
variable [Lz]
theorem elems_cells {R:Rd} {b esz:Nat}:∀ (l:List (List UInt8)) (off:Nat),RelElems R (l.map eN) b off esz→∀ (j:Nat) (x:List UInt8),l[j]? =some x→R.cell b (off+j)=some (.string (bsO x))
 | [],_,_,j,x,h=>by simp at h
 | a::l,off,H,j,x,h=>by
  simp only[List.map_cons,RelElems] at H
  obtain⟨h1,h2,h3⟩:=H
  have e1:esz=1:=h1.symm
  subst e1
  cases j with
  | zero=>
   have hx:a=x:=by simpa using h
   subst hx
   simp only[eN,RelCells,RelPV] at h2
   obtain⟨⟨v,k1,_,k2,_⟩,_⟩:=h2
   rw[Nat.add_zero,k1,k2]
  | succ j=>
   have:=elems_cells l (off+1) h3 j x (by simpa using h)
   rwa [show off+(j+1)=off+1+j by omega]
theorem join_lib:∀ ws:List (List UInt8),Lib.join ws [32]=joinF ws
 | []=>rfl
 | w::r=>by
  rw[Lib.join_cons]
  simp only[Lib.joinTail,joinF,List.flatMap]
  rfl
theorem join_len (ws:List (List UInt8)) (N:Nat) (h:∀ w∈ws,w.length≤N):(joinF ws).length≤ws.length*(N+1):=by
 cases ws with
 | nil=>simp[joinF]
 | cons w r=>
  have key:∀ r:List (List UInt8),(∀ w∈r,w.length≤N)→(r.flatMap fun x=>32::x).length≤r.length*(N+1):=by
   intro r
   induction r with
   | nil=>intro _;simp
   | cons a r ih=>
    intro hr
    have h1:=ih fun w hw=>hr w (by simp[hw])
    have h2:=hr a (by simp)
    simp only[List.flatMap_cons,List.length_append,List.length_cons,Nat.add_mul,Nat.one_mul]
    omega
  have h1:=key r fun w hw=>h w (by simp[hw])
  have h2:=h w (by simp)
  simp only[joinF,List.length_append,List.length_cons,Nat.add_mul,Nat.one_mul]
  omega
theorem join_ok:JoinOk:=by
 intro ws hn hw
 refine⟨fun k hk=>?_,fun G w vs M hv=>.inl ?_⟩
 ·simp[DV.refsL,DV.refs] at hk
 obtain⟨v,v2,rfl,h1,h2⟩:=hv.two
 have e2:=(RelDV_lit_eq h2).1
 subst e2
 simp only[RelDV,RelPV] at h1
 obtain⟨a,cap,rfl,hcap,hes⟩:=h1
 refine⟨Tryz.call169 _ _,?_⟩
 have fin:∀ w':World,Below w.heap.size w w'→∃ G',Stepped G w (lookM []) (vS (bsO (joinF ws))) [] G' w' (.string (bsO (joinF ws))):=fun w' hB=>
  ⟨G,stepped_grow M.ctx hB.os hB.tape hB.output hB.size (fun k hk=>hB.block k hk) (RelDV_lit rfl) (by simp[DV.refs])⟩
 by_cases h0:ws=[]
 ·subst h0
  refine Calls.mono (Tryz.strings_Join_none a cap (bsO [32]) w) ?_
  rintro e w' ⟨he,hw'⟩
  exact⟨_,he,fin w' (hw'▸Below.refl _ _)⟩
 ·rcases hes with hes|⟨b,off,esz,rfl,hel⟩
  ·exact absurd (List.map_eq_nil_iff.1 hes) h0
  have hcell:∀ (j:Nat) (x:ByteArray),(ws.map bsO)[j]? =some x→w.cell? ⟨b,off+j,none⟩=some (.string x):=by
   intro j x hj
   rw[List.getElem?_map] at hj
   obtain⟨y,hy,rfl⟩:=Option.map_eq_some_iff.1 hj
   exact M.readable.1 _ _ _ (elems_cells ws off hel j y hy)
  have hd:(ws.map bsO).map (·.data.toList)=ws:=by
   rw[List.map_map]
   conv=>rhs;rw[←List.map_id ws]
   rfl
  have hbk:b<w.heap.size:=by
   obtain⟨y,r,rfl⟩:=List.exists_cons_of_ne_nil h0
   have:=hcell 0 (bsO y) rfl
   unfold World.cell? at this
   rcases Nat.lt_or_ge b w.heap.size with h|h
   ·exact h
   ·have hnone:w.heap[b]? =none:=Array.getElem?_eq_none h
    simp[hnone] at this
  have hjl:=join_len ws 1000 hw
  have hc:=Tryz.strings_Join b off cap (ws.map bsO) (bsO [32]) w hcell hbk (by rw[List.length_map];omega) (by rw[List.length_map] at hcap ⊢;exact hcap) (by
   rw[hd]
   have:Lib.join ws (bsO [32]).data.toList=joinF ws:=join_lib ws
   rw[this]
   have:ws.length*(1000+1)≤1000*(1000+1):=Nat.mul_le_mul_right _ hn
   omega)
  rw[hd] at hc
  have hj:Lib.join ws (bsO [32]).data.toList=joinF ws:=join_lib ws
  rw[hj,List.length_map] at hc
  rw[List.length_map]
  refine Calls.mono hc ?_
  rintro e w' ⟨he,hB⟩
  exact⟨_,he,fin w' hB⟩
end Go.Lens.Tm
end
section
namespace Go.Lens.Tm
open Go.Lens.Tb Go.Proofs Go.RowKit
set_option linter.unusedSectionVars false
variable [Lz]
theorem join2_lib:∀ ws:List (List UInt8),Lib.join ws [59,32]=joinC ws
 | []=>rfl
 | w::r=>by
  rw[Lib.join_cons]
  simp only[Lib.joinTail,joinC,List.flatMap]
  rfl
theorem join2_ok:Join2Ok:=by
 intro ws hn hw
 refine⟨fun k hk=>?_,fun G w vs M hv=>.inl ?_⟩
 ·simp[DV.refsL,DV.refs] at hk
 obtain⟨v,v2,rfl,h1,h2⟩:=hv.two
 have e2:=(RelDV_lit_eq h2).1
 subst e2
 simp only[RelDV,RelPV] at h1
 obtain⟨a,cap,rfl,hcap,hes⟩:=h1
 refine⟨Tryz.call169 _ _,?_⟩
 have fin:∀ w':World,Below w.heap.size w w'→∃ G',Stepped G w (lookM []) (vS (bsO (joinC ws))) [] G' w' (.string (bsO (joinC ws))):=fun w' hB=>
  ⟨G,stepped_grow M.ctx hB.os hB.tape hB.output hB.size (fun k hk=>hB.block k hk) (RelDV_lit rfl) (by simp[DV.refs])⟩
 by_cases h0:ws=[]
 ·subst h0
  refine Calls.mono (Tryz.strings_Join_none a cap (bsO [59,32]) w) ?_
  rintro e w' ⟨he,hw'⟩
  exact⟨_,he,fin w' (hw'▸Below.refl _ _)⟩
 ·rcases hes with hes|⟨b,off,esz,rfl,hel⟩
  ·exact absurd (List.map_eq_nil_iff.1 hes) h0
  have hcell:∀ (j:Nat) (x:ByteArray),(ws.map bsO)[j]? =some x→w.cell? ⟨b,off+j,none⟩=some (.string x):=by
   intro j x hj
   rw[List.getElem?_map] at hj
   obtain⟨y,hy,rfl⟩:=Option.map_eq_some_iff.1 hj
   exact M.readable.1 _ _ _ (elems_cells ws off hel j y hy)
  have hd:(ws.map bsO).map (·.data.toList)=ws:=by
   rw[List.map_map]
   conv=>rhs;rw[←List.map_id ws]
   rfl
  have hbk:b<w.heap.size:=by
   obtain⟨y,r,rfl⟩:=List.exists_cons_of_ne_nil h0
   have:=hcell 0 (bsO y) rfl
   unfold World.cell? at this
   rcases Nat.lt_or_ge b w.heap.size with h|h
   ·exact h
   ·have hnone:w.heap[b]? =none:=Array.getElem?_eq_none h
    simp[hnone] at this
  have hjl:=joinC_len 1000 ws hw
  have hc:=Tryz.strings_Join b off cap (ws.map bsO) (bsO [59,32]) w hcell hbk (by rw[List.length_map];omega) (by rw[List.length_map] at hcap ⊢;exact hcap) (by
   rw[hd]
   have:Lib.join ws (bsO [59,32]).data.toList=joinC ws:=join2_lib ws
   rw[this]
   have:ws.length*(1000+2)≤1000*(1000+2):=Nat.mul_le_mul_right _ hn
   omega)
  rw[hd] at hc
  have hj:Lib.join ws (bsO [59,32]).data.toList=joinC ws:=join2_lib ws
  rw[hj,List.length_map] at hc
  rw[List.length_map]
  refine Calls.mono hc ?_
  rintro e w' ⟨he,hB⟩
  exact⟨_,he,fin w' hB⟩
def VarLaid (n:String):Prop:=∃ g tp p T fr,Tryz.prog.globalNamed n=some g∧Lz.L g=some (.cells #[.iface tp p] T fr)
def ErrLaid:Prop:=VarLaid "strconv.ErrSyntax" ∧VarLaid "strconv.ErrRange"
theorem var_of {G:Gh} {w:World} {look:Nat→Option MO} (M:InvM G look w) {n:String} (h:VarLaid n):∃ tp p,w.var? Tryz.prog n=some #[.iface tp p]:=by
 obtain⟨g,tp,p,T,fr,h1,h2⟩:=h
 obtain⟨_,h3⟩:=M.laid _ _ h2
 refine⟨tp,p,?_⟩
 unfold World.var?
 rw[h1]
 simp only[Option.bind_some,h3]
theorem call_one {s:List UInt8} {val:DV} (hr:val.refs=[]) (h:∀ (G:Gh) (w:World),InvM G (lookM []) w→Calls Tryz.prog 256 #[.string (bsO s)] w fun e w'=>∃ r,e=.returned r∧Below w.heap.size w w'∧RelDV G (G.rd w') val r) :
  CallOk Tryz.prog 256 [vS (bsO s)] (lookM []) val []:=by
 refine⟨fun k hk=>?_,fun G w vs M hv=>.inl ?_⟩
 ·simp[DV.refsL,DV.refs] at hk
 obtain⟨v,rfl,h1⟩:=hv.one
 have e1:=(RelDV_lit_eq h1).1
 subst e1
 refine⟨Tryz.call256 _ _,?_⟩
 refine Calls.mono (h G w M) ?_
 rintro e w' ⟨r,he,hB,hv⟩
 exact⟨r,he,G,stepped_grow M.ctx hB.os hB.tape hB.output hB.size (fun k hk=>hB.block k hk) hv hr⟩
theorem w256 (he:ErrLaid) (s:List UInt8) (hl:s.length≤1000000) :
  (∃ v,R64 v∧intV s=(v,decide (0≤v∧v≤999999999∧Lib.itoa v=s))∧CallOk Tryz.prog 256 [vS (bsO s)] (lookM []) (.tup [vI v,.pv (.lit .nilIface)]) [])∨
  (∃ v Terr,R64 v∧intV s=(v,false)∧CallOk Tryz.prog 256 [vS (bsO s)] (lookM []) (.tup [vI v,.pv (.iface Terr .any)]) []):=by
 have hs:(bsO s).data.toList=s:=rfl
 have hsz:(bsO s).size=s.length:=rfl
 have two:∀ (G:Gh) (R:Rd) (v:Int) (x:PV) (u:Value),RelPV R x u→RelDV G R (.tup [vI v,.pv x]) (.tuple #[.int .i64 v,u]):=by
  intro G R v x u h
  simp only[RelDV,RelDVs,RelPV]
  exact⟨#[.int .i64 v,u],rfl,_,_,rfl,⟨rfl,rfl⟩,_,_,rfl,h,rfl⟩
 have hit:∀ (R:Rd) (N:Nat),RelPV R (.iface 414 .any) (.iface 414 (.pointer (some ⟨N,0,none⟩))):=by
  intro R N
  simp only[RelPV]
  exact⟨_,rfl,rfl⟩
 by_cases hok:∃ v,Lib.atoiAll s=.ok v
 ·obtain⟨v,h⟩:=hok
  have hb:=Lib.atoiAll_bounds h
  refine .inl ⟨v,⟨by omega,by omega⟩,by unfold intV;rw[h],call_one (by simp[DV.refs,DV.refsL]) fun G w M=>?_⟩
  refine Calls.mono (Tryz.strconv_Atoi_ok (bsO s) (by rw[hsz];omega) v h w) ?_
  rintro e w' ⟨rfl,hw⟩
  refine⟨_,rfl,?_,two _ _ _ _ _ (by unfold RelPV;exact⟨rfl,rfl⟩)⟩
  rcases hw with rfl|⟨t,rfl⟩
  ·exact Below.refl _ _
  ·exact Lib.bytesWorld_below w 5 t
 ·have hno:∀ v,Lib.atoiAll s≠.ok v:=fun v h=>hok ⟨v,h⟩
  by_cases hr:Lib.atoiAll s=.range
  ·have hb:=Lib.atoiSat_bounds s
   refine .inr ⟨Lib.atoiSat s,414,⟨by omega,by omega⟩,by unfold intV;rw[hr],call_one (by simp[DV.refs,DV.refsL]) fun G w M=>?_⟩
   obtain⟨tp,p,hvar⟩:=var_of M he.2
   refine Calls.mono (Tryz.strconv_Atoi_range_var (bsO s) (by rw[hsz];omega) hr tp p w hvar) ?_
   rintro e w' ⟨N,rfl,_,_,hB⟩
   exact⟨_,rfl,hB,two _ _ _ _ _ (hit _ _)⟩
  ·refine .inr ⟨0,414,⟨by omega,by omega⟩,?_,call_one (by simp[DV.refs,DV.refsL]) fun G w M=>?_⟩
   ·unfold intV
    split
    ·rename_i v h;exact absurd h (hno v)
    ·rename_i h;exact absurd h hr
    ·rfl
   obtain⟨tp,p,hvar⟩:=var_of M he.1
   refine Calls.mono (Tryz.strconv_Atoi_form_var (bsO s) (by rw[hsz];omega) hno hr tp p w hvar) ?_
   rintro e w' ⟨N,rfl,_,_,hB⟩
   exact⟨_,rfl,hB,two _ _ _ _ _ (hit _ _)⟩
end Go.Lens.Tm
end
section
namespace Go.Lens
set_option linter.unusedSectionVars false
variable [Lz]
section
variable {P:Program} {Y:Tab} [TabOk P Y] {nb:Nat} {s:St} {dst:Option Tmp} {ty u:TypeId} {pos:String} {af:Array Edge} {gd:Option (Nat×Bool)} {t:TypeId} {x y:Operand}
theorem B.remN {a b:Int} (hx:ev1 s x=lit (.int .i64 a)) (hy:ev1 s y=lit (.int .i64 b)) (ha:0≤a) (hb:0<b):Body P Y nb s ⟨dst,.binOp .rem t x y u,ty,pos,af,gd⟩ (lit (.int .i64 (a%b))) [] []:=by
 have e:a.tmod b=a%b:=Int.tmod_eq_emod_of_nonneg ha
 have:=B.rem (P:=P) (Y:=Y) (nb:=nb) (dst:=dst) (ty:=ty) (u:=u) (pos:=pos) (af:=af) (gd:=gd) (t:=t) hx hy (by omega)
 rw[e] at this;exact this
theorem B.storeR {h c v sz hh:Nat} {T T2:TypeId} {ds ds2:List DV} {es:List (List PV)} (hx:ev1 s x=.bref h c) (hm:lookM s.ms h=some (.box T ds)) (hy:ev1 s y=.aref hh v) (hm2:lookM s.ms hh=some (.arr v sz T2 es))
  (hs:szT Y t=some 1) (hle:Nat.ble (c+1) ds.length=true) (hd:ds.take c++[.aref hh v]++ds.drop (c+1)=ds2):Body P Y nb s ⟨dst,.store t x y,ty,pos,af,gd⟩ .dead [(h,.box T ds2)] [h,hh]:=by
 subst hd
 refine .inr (SBody.of fun σ G a w hv hl I=>?_)
 have hX:=hv x (by simp[Op.operands])
 have hY:=hv y (by simp[Op.operands])
 rw[hx] at hX;rw[hy] at hY
 have hlk:lookM σ.ms h=some (.box T ds):=by rw[hl h (.inl (by simp))];exact hm
 have hlk2:lookM σ.ms hh=some (.arr v sz T2 es):=by rw[hl hh (.inl (by simp))];exact hm2
 have C:Ctx G w (fun z=>match z with| .tmp 0=>a.eval x| .tmp 1=>a.eval y|_=>undef) (fun z=>match z with| .tmp 0=>.bref h c| .tmp 1=>.aref hh v|_=>.dead) (lookM σ.ms) (lookM σ.ms):=by
  refine I.mem.ctx2 (fun z=>?_) (fun z k hk=>?_)
  ·split
   ·exact hX
   ·exact hY
   ·simp only[RelDV]
  ·split at hk
   ·simp only[DV.refs,List.mem_singleton] at hk;subst hk;exact⟨_,hlk⟩
   ·simp only[DV.refs,List.mem_singleton] at hk;subst hk;exact⟨_,hlk2⟩
   ·simp[DV.refs] at hk
 have hcv:storeV Y t (.bref h c) (.aref hh v) (lookM σ.ms)=some ⟨true,.dead,[(h,.box T (ds.take c++[.aref hh v]++ds.drop (c+1)))]⟩:=by
  unfold storeV
  have hok:okCells (lookM σ.ms) (.aref hh v)=true:=by simp[okCells,hlk2]
  have hcl:cellsDV (.aref hh v)=[.aref hh v]:=rfl
  have hdec:decide (c+1≤ds.length)=true:=decide_eq_true (Nat.le_of_ble_eq_true hle)
  simp only[hs,hlk,hok,hcl,List.length_cons,List.length_nil,Nat.zero_add,beq_self_eq_true,Bool.and_self,if_true,hdec]
 obtain⟨w',G',h1,h2⟩:=storeV_sound (P:=P) C (t:=t) (a:=.tmp 0) (x:=.tmp 1) hcv rfl
 refine⟨undef,w',G',.inr ⟨?_,rfl⟩,h2⟩
 have lift:∀ {q:Sem Unit} {w':World},q.run P w=.ok () w'→(do q;Pure.pure Next.skip:Sem Next).run P w=.ok .skip w':=by
  intro q w' h
  simp only[Sem.run_bind,h,Result.andThen_ok,Sem.run_pure]
 exact lift (q:=Instr.storeAt _ _ _) h1
end
end Go.Lens
end
section
namespace Go.Lens.Tm
open Go.Lens.Tb Go.Proofs
variable [Lz]
set_option linter.unusedSectionVars false
set_option maxHeartbeats 4000000
set_option maxRecDepth 100000
attribute [local irreducible] TK PK T RG EfR Body CG
theorem by116:ty116.info.bytes=40:=by kernel_rfl
theorem in116:tab.info? 116=some ty116.info:=by kernel_rfl
theorem un273:tab.underlying 273=some (.interface #[("Error",145)]):=by kernel_rfl
theorem un3:tab.underlying 3=some (.int (.i64)):=by kernel_rfl
theorem un5:tab.underlying 5=some (.int (.u8)):=by kernel_rfl
theorem w299 (n:Int) (hn0:0≤n) (hn1:n≤999999999):CallOk Tryz.prog 299 [vI n,vI 1] (lookM []) (vS (bsO (Lib.itoa n))) []:=by
 refine cG qf299 rfl (nB rfl) rfl (l2 (fun (m:Int) (s:List UInt8)=>[(0,vI m),(1,vI 1),(5,vS (bsO s))]) (fun _ _=>[]) (fun m s=>DecI n m s) (fun m s=>Int.toNat m+(1-s.length)) n [] rfl ?_ (sb rfl rfl rfl) ?_)
 · exact decI_0 hn0
 intro m s hI0
 have hsl:=decI_len hI0 hn0 hn1
 have hrn:=decI_rng hI0
 refine Eg rfl rfl (fun hc=>B.move rfl) rfl (Eg rfl rfl (fun hc=>B.lenB (a:=s) (ev1_gd rfl hc) un9) rfl (Eg rfl rfl (fun hc=>B.move rfl) rfl (Eg rfl rfl (fun hc=>B.lss (ev1_gd rfl hc) (ev1_gd rfl hc)) rfl (E rfl (B.pick rfl rfl rfl rfl (gdB rfl) (pick_or _)) (Cb rfl rfl (fun h1=>?_) (fun h1=>?_))))))
 ·refine E rfl (B.remN rfl rfl (by omega) (by decide)) (E rfl (B.remN rfl rfl (by omega) (by decide)) (E rfl (B.add rfl rfl (by have hz:=decI_rng hI0;unfold R64;omega)) (E rfl (B.slMB (a:=[48,49,50,51,52,53,54,55,56,57]) (i:=(Int.toNat (m%10))) (j:=(Int.toNat ((m%10)+1))) rfl rfl rfl un9 (Int.toNat_of_nonneg (by omega)).symm (Int.toNat_of_nonneg (by omega)).symm (by omega) (by (simp only[List.length_cons,List.length_nil];omega))) (E rfl (B.catB (a:=(List.drop (Int.toNat (m%10)) (List.take (Int.toNat ((m%10)+1)) [48,49,50,51,52,53,54,55,56,57]))) (b:=s) rfl rfl (by simp only[List.length_append,List.length_drop,List.length_take,List.length_cons,List.length_nil];omega)) (E rfl (B.quoN rfl rfl (by omega) (by decide) (by have hz:=decI_rng hI0;unfold R64;omega)) (pk rfl (L2 (m / 10) ((List.drop (Int.toNat (m%10)) (List.take (Int.toNat ((m%10)+1)) [48,49,50,51,52,53,54,55,56,57]))++s) ?_ ?_ (sb rfl rfl rfl))))))))
  · exact decI_next hI0 h1
  · exact decI_less hI0 h1
 ·exact Rt rfl (leaf (val0:=vS (bsO s)) (by kernel_rfl) (ls (by rw[decI_end hI0 h1])))
theorem w257 (l:List Int) (hl:l.length≤1) (hr:∀ x∈l,0≤x∧x≤999999999):CallOk Tryz.prog 257 [.pv (.agg [pB false,pL eI l])] (lookM []) (vS (bsO (txtF l))) []:=by
 refine cG qf257 rfl (nB rfl) rfl (E rfl (B.lenL rfl un22) (Cp rfl rfl (fun h1=>?_) (fun h1=>?_)))
 ·exact Rt rfl (leaf (val0:=vS (bsO [48])) (by kernel_rfl) (ls (by (rw[txt_0 h1]))))
 ·have hr1:=hr _ (getD_mem (l:=l) (z:=0) (k:=l.length-1) (by omega))
  refine E rfl (B.lenL rfl un22) (E rfl (B.sub rfl rfl (by unfold R64;omega)) (E rfl (B.idx (z:=0) (i:=(l.length-1)) rfl rfl un22 sz3 (fun _=>rfl) (by omega) (by omega)) (C rfl (w299 (List.getD l (l.length-1) 0) (by omega) (by omega)) rfl rfl rfl (E rfl (B.lenL rfl un22) (E rfl (B.sub rfl rfl (by unfold R64;omega)) (l1 (fun (i:Int)=>[(1,.bref 2 0),(3,vS (bsO (Lib.itoa (List.getD l (l.length-1) 0)))),(4,vI i)]) (fun _=>[(2,.box 349 [vB false,vL eI l])]) (fun i=>i<0) (fun _=>(0:Nat)) ((l.length:Int)-2) rfl ?_ (sb rfl rfl rfl) ?_))))))
  · omega
  intro i hI0
  refine Cp rfl rfl (fun h2=>?_) (fun h2=>?_)
  ·exact absurd h2 (by omega)
  ·exact CF rfl rfl (Rt rfl (leaf (val0:=vS (bsO (Lib.itoa (List.getD l (l.length-1) 0)))) (by kernel_rfl) (ls (by (rw[txt_1 h1])))))
theorem w332 (l:List Int) (hl:l.length≤10000) (hz:∀ x∈l,x≠0):CallOk Tryz.prog 332 [vL eI l] (lookM []) (vL eI l) []:=by
 refine cG qf332 rfl (nB rfl) rfl (E rfl (B.nilS (enc:=eI) rfl) (l1 (fun (q:List Int)=>[(0,vL eI q)]) (fun _=>[]) (fun q=>q=l) (fun _=>(0:Nat)) l rfl ?_ (sb rfl rfl rfl) ?_))
 · rfl
 intro q hI0
 subst hI0
 refine E rfl (B.lenL rfl un22) (Eg rfl rfl (fun hc=>B.move rfl) rfl (Eg rfl rfl (fun hc=>B.move rfl) rfl (Eg rfl rfl (fun hc=>B.lenL (ev1_gd rfl hc) un22) rfl (Eg rfl rfl (fun hc=>B.sub (ev1_gd rfl hc) rfl (by unfold R64;omega)) rfl (Eg rfl rfl (fun hc=>B.idx (z:=0) (i:=(q.length-1)) (ev1_gd rfl hc) (ev1_gd rfl hc) un22 sz3 (fun _=>rfl) (by have hc2:=of_decide_eq_true (eqt hc);omega) (by (have hc2:=of_decide_eq_true (eqt hc);omega))) rfl (Eg rfl rfl (fun hc=>B.loadP (ev1_gd rfl hc) ag3 sz3) rfl (Eg rfl rfl (fun hc=>B.eql (ev1_gd rfl hc) rfl) rfl (E rfl (B.pick rfl rfl rfl (gdB rfl) rfl (pick_and _)) (Cb rfl rfl (fun h1=>?_) (fun h1=>?_))))))))))
 ·exact absurd (trim_no h1) (fun hh=>hz _ (getD_mem (by omega)) hh.2)
 ·exact Rt rfl (leaf (val0:=vL eI q) (by kernel_rfl) (lsl (by rfl)))
theorem w300 (l:List Int) (hl:l.length≤10000) (hz:∀ x∈l,x≠0):CallOk Tryz.prog 300 [vB false,vL eI l] (lookM []) (.pv (.agg [pB false,pL eI l])) []:=by
 exact cG qf300 rfl (nB rfl) rfl (E rfl (B.runZ rfl (fun l=>Frz.boxN l rfl) rfl) (C rfl (w332 l hl hz) rfl rfl rfl (Eg rfl rfl (fun hc=>B.move rfl) rfl (Eg rfl rfl (fun hc=>B.lenL (ev1_gd rfl hc) un22) rfl (Eg rfl rfl (fun hc=>B.gtr (ev1_gd rfl hc) rfl) rfl (E rfl (B.pick rfl rfl rfl (gdB rfl) rfl (pick_and _)) (Rt rfl (leaf (val0:=.pv (.agg [pB (bif false then (decide (0<(l.length:Int))) else false),pL eI l])) (by kernel_rfl) (lag (lcons (plb (by rfl)) (lcons (rfl) rfl)))))))))))
theorem w258 (n:Int) (hn0:0≤n) (hn1:n≤999999999):CallOk Tryz.prog 258 [vI n] (lookM []) (.pv (.agg [pB false,pL eI (wF n)])) []:=by
 refine cG qf258 rfl (nB rfl) rfl (E rfl (B.runZ rfl (fun l=>Frz.boxN l rfl) rfl) (E rfl (B.adopt 4 1 3 rfl rfl) (l3 (fun (m:Int) (v:Nat) (out:List Int)=>[(0,vI m),(2,.bref 3 0),(3,.aref 4 v),(4,vB (decide (n<0)))]) (fun _ v out=>[(3,.box 349 [vB false,vL eI []]),(4,.arr v 1 3 (List.map eI out))]) (fun m _ out=>WhI n m out) (fun m _ _=>Int.toNat m) n 0 [] rfl ?_ (sb rfl rfl rfl) ?_)))
 · exact .inl ⟨rfl,rfl⟩
 intro m v out hI0
 have hwl:=whI_len hI0
 have hwr:=whI_rng hI0 hn0 hn1
 refine Cp rfl rfl (fun h1=>?_) (fun h1=>?_)
 ·refine E rfl (B.remN rfl rfl (by omega) (by decide)) (Cp rfl rfl (fun h2=>?_) (fun h2=>?_))
  ·exact absurd h2 (by have hz:=whI_rng hI0 hn0 hn1;omega)
  ·refine E rfl (B.runZ (val:=.pv (.slice (List.map eI [(m%1000000000)]))) rfl (fun l=>Frz.arr l _ _ _ _ _) rfl) (E rfl (B.append rfl rfl rfl un22 in3 rfl (fun _=>rfl) by3 (by (simp only[List.length_append,List.length_cons,List.length_nil];omega))) (E rfl (B.quoN rfl rfl (by omega) (by decide) (by have hz:=whI_rng hI0 hn0 hn1;unfold R64;omega)) (pk rfl (L3 (m / 1000000000) (v+1) (out++[(m%1000000000)]) ?_ ?_ (sb rfl rfl rfl)))))
   · exact whI_next hI0 hn0 hn1 h1
   · (have hz:=whI_rng hI0 hn0 hn1;omega)
 ·refine tk 9 rfl ?_
  refine tn ⟨[(2,.bref 3 0),(3,.aref 4 v),(4,vB (decide (n<0)))],[(3,.box 349 [vB false,vL eI []]),(4,.arr v 1 3 (List.map eI out))]⟩ rfl rfl rfl ?_
  have hou:=whI_end hI0 (by omega)
  rw[decide_eq_false (show ¬n<0 by omega)]
  exact kc (Fz 9 3 rfl rfl rfl (C rfl (w300 out (by omega) (whI_nz hI0)) rfl rfl rfl (Rt rfl (leaf (val0:=.pv (.agg [pB false,pL eI out])) (by kernel_rfl) (lag (lcons (rfl) (lcons (plsl (by rw[hou])) rfl)))))))
theorem w187 (n:Int) (hn0:0≤n) (hn1:n≤999999999):CallOk Tryz.prog 187 [vI n] (lookM []) (vS (bsO (Lib.itoa n))) []:=by
 exact cG qf187 rfl (nB rfl) rfl (C rfl (w258 n hn0 hn1) rfl rfl rfl (C rfl (w257 (wF n) (wF_len n) (wF_rng hn0 hn1)) rfl rfl rfl (Rt rfl (leaf (val0:=vS (bsO (txtF (wF n)))) (by kernel_rfl) (ls (by rw[txt_w hn0]))))))
theorem w131 (n:Int) (hn0:0≤n) (hn1:n≤999999999):CallOk Tryz.prog 131 [vI n] (lookM []) (vS (bsO (Lib.itoa n))) []:=by
 exact cG qf131 rfl (nB rfl) rfl (C rfl (w187 n (by omega) (by omega)) rfl rfl rfl (Rt rfl (leaf rfl rfl)))
theorem w135 (s:List UInt8):CallOk Tryz.prog 135 [vS (bsO s)] (lookM []) (.tup [vI (Option.getD (intR s) 0),vB (Option.isSome (intR s))]) []:=by
 refine cG qf135 rfl (nB rfl) rfl (E rfl (B.lenB (a:=s) rfl un9) (Eg rfl rfl (fun hc=>B.move rfl) rfl (Eg rfl rfl (fun hc=>B.lenB (a:=s) (ev1_gd rfl hc) un9) rfl (Eg rfl rfl (fun hc=>B.gtr (ev1_gd rfl hc) rfl) rfl (E rfl (B.pick rfl rfl rfl rfl (gdB rfl) (pick_or _)) (Eg rfl rfl (fun hc=>B.move rfl) rfl (Eg rfl rfl (fun hc=>B.lenB (a:=s) (ev1_gd rfl hc) un9) rfl (Eg rfl rfl (fun hc=>B.gtr (ev1_gd rfl hc) rfl) rfl (Eg rfl rfl (fun hc=>B.move (ev1_gd rfl hc)) rfl (Eg rfl rfl (fun hc=>B.move rfl) rfl (Eg rfl rfl (fun hc=>B.sidx (i:=0) (ev1_gd rfl hc) rfl un9 rfl (show 0<s.length from (by exact gd_len4 hc))) rfl (Eg rfl rfl (fun hc=>B.eql (ev1_gd rfl hc) rfl) rfl (Eg rfl rfl (fun hc=>B.pick (ev1_gd rfl hc) rfl rfl (gdB rfl) rfl (pick_and2 hc)) rfl ?_)))))))))))))
 refine E rfl (B.pick rfl rfl rfl rfl (gdB rfl) (pick_or _)) (Cb rfl rfl (fun h1=>?_) (fun h1=>?_))
 ·exact Rt rfl (leaf (val0:=.tup [vI 0,vB false]) (by kernel_rfl) (tup2 (li (by (rw[intR_no h1];rfl))) (lb (by (rw[intR_no h1];rfl)))))
 ·have hnl:=noI_len h1
  refine l2 (fun (k:Nat) (n:Int)=>[(0,vS (bsO s)),(4,vI n),(5,vI k)]) (fun _ _=>[]) (fun k n=>k≤s.length∧intG 0 s=intG n (List.drop k s)∧0≤n∧n<10 ^ k) (fun k _=>s.length-k) 0 0 rfl ?_ (sb rfl rfl rfl) ?_
  · exact⟨Nat.zero_le _,rfl,by omega,by decide⟩
  intro k n hI0
  have hpb:=pow_bd (k:=k) (by omega)
  have hn9:n<1000000000:=Int.lt_of_lt_of_le hI0.2.2.2 hpb
  refine E rfl (B.lenB (a:=s) rfl un9) (Cp rfl rfl (fun h2=>?_) (fun h2=>?_))
  ·refine E rfl (B.sidx (i:=k) rfl rfl un9 rfl (show k<s.length from (by omega))) (Eg rfl rfl (fun hc=>B.move rfl) rfl (Eg rfl rfl (fun hc=>B.move rfl) rfl (Eg rfl rfl (fun hc=>B.sidx (i:=k) (ev1_gd rfl hc) (ev1_gd rfl hc) un9 rfl (show k<s.length from (by omega))) rfl (Eg rfl rfl (fun hc=>B.gtr (ev1_gd rfl hc) rfl) rfl (E rfl (B.pick rfl rfl rfl rfl (gdB rfl) (pick_or _)) (Cb rfl rfl (fun h3=>?_) (fun h3=>?_)))))))
   ·exact Rt rfl (leaf (val0:=.tup [vI 0,vB false]) (by kernel_rfl) (tup2 (li (by (rw[intR_go h1,hI0.2.1,intG_bad (by omega) h3];rfl))) (lb (by (rw[intR_go h1,hI0.2.1,intG_bad (by omega) h3];rfl)))))
   ·refine E rfl (B.mul rfl rfl (by unfold R64;omega)) (E rfl (B.sidx (i:=k) rfl rfl un9 rfl (show k<s.length from (by omega))) (E rfl (B.subB rfl rfl (by (have hdr:=dig_rng h3;omega))) (E rfl (B.toI rfl un5 un3 (by unfold R64;(have hdr:=dig_rng h3;omega)) rfl) (E rfl (B.add rfl rfl (by unfold R64;(have hdr:=dig_rng h3;omega))) (E rfl (B.add rfl rfl (by unfold R64;omega)) (pk rfl (L2 (k+1) ((10*n)+((byteAt (bsO s) k)-48)) ?_ ?_ (sb rfl rfl rfl))))))))
    · (have hdr:=dig_rng h3;refine⟨by omega,hI0.2.1.trans (intG_step (by omega) h3),by omega,?_⟩;rw[pow_s];exact intB_next hI0.2.2.2 hdr.2)
    · omega
  ·exact Rt rfl (leaf (val0:=.tup [vI n,vB true]) (by kernel_rfl) (tup2 (li (by (rw[intR_go h1,hI0.2.1,List.drop_of_length_le (by omega)];rfl))) (lb (by (rw[intR_go h1,hI0.2.1,List.drop_of_length_le (by omega)];rfl)))))
theorem w186o (hp:PowLaid) (s:List UInt8) (v:Int) (hv:R64 v) (h256:CallOk Tryz.prog 256 [vS (bsO s)] (lookM []) (.tup [vI v,.pv (.lit .nilIface)]) []):CallOk Tryz.prog 186 [vS (bsO s)] (lookM []) (.tup [vI v,vB (decide (0≤v∧v≤999999999∧Lib.itoa v=s))]) []:=by
 exact cG qf186 rfl (nB rfl) rfl (C rfl (h256) rfl rfl rfl (E rfl (B.ieqE rfl un273) (Eg rfl rfl (fun hc=>B.move rfl) rfl (Eg rfl rfl (fun hc=>B.geq (ev1_gd rfl hc) rfl) rfl (E rfl (B.pick rfl rfl rfl (gdB rfl) rfl (pick_and _)) (Eg rfl rfl (fun hc=>B.move rfl) rfl (Eg rfl rfl (fun hc=>B.leq (ev1_gd rfl hc) rfl) rfl (E rfl (B.pick rfl rfl rfl (gdB rfl) rfl (pick_and _)) (Eg rfl rfl (fun hc=>B.move rfl) rfl (Eg rfl rfl (fun hc=>B.call (w185 hp v hv) rfl (ds1 (ev1_gd rfl hc)) rfl) rfl (Eg rfl rfl (fun hc=>B.move rfl) rfl (Eg rfl rfl (fun hc=>B.seqB (a:=(Lib.itoa v)) (b:=s) (ev1_gd rfl hc) (ev1_gd rfl hc)) rfl (E rfl (B.pick rfl rfl rfl (gdB rfl) rfl (pick_and _)) (Rt rfl (leaf (val0:=.tup [vI v,vB (bif (bif (bif true then (decide (0≤v)) else false) then (decide (v≤999999999)) else false) then (decide ((Lib.itoa v)=s)) else false)]) (by kernel_rfl) (tup2 (rfl) (lb (by exact int_chk))))))))))))))))))
theorem w186n (hp:PowLaid) (s:List UInt8) (v:Int) (Terr:TypeId) (hv:R64 v) (h256:CallOk Tryz.prog 256 [vS (bsO s)] (lookM []) (.tup [vI v,.pv ((.iface Terr .any))]) []):CallOk Tryz.prog 186 [vS (bsO s)] (lookM []) (.tup [vI v,vB false]) []:=by
 exact cG qf186 rfl (nB rfl) rfl (C rfl (h256) rfl rfl rfl (E rfl (B.ieqN rfl un273) (Eg rfl rfl (fun hc=>B.move rfl) rfl (Eg rfl rfl (fun hc=>B.geq (ev1_gd rfl hc) rfl) rfl (E rfl (B.pick rfl rfl rfl (gdB rfl) rfl (pick_and _)) (Eg rfl rfl (fun hc=>B.move rfl) rfl (Eg rfl rfl (fun hc=>B.leq (ev1_gd rfl hc) rfl) rfl (E rfl (B.pick rfl rfl rfl (gdB rfl) rfl (pick_and _)) (Eg rfl rfl (fun hc=>B.move rfl) rfl (Eg rfl rfl (fun hc=>B.call (w185 hp v hv) rfl (ds1 (ev1_gd rfl hc)) rfl) rfl (Eg rfl rfl (fun hc=>B.move rfl) rfl (Eg rfl rfl (fun hc=>B.seqB (a:=(Lib.itoa v)) (b:=s) (ev1_gd rfl hc) (ev1_gd rfl hc)) rfl (E rfl (B.pick rfl rfl rfl (gdB rfl) rfl (pick_and _)) (Rt rfl (leaf (val0:=.tup [vI v,vB (bif (bif (bif false then (decide (0≤v)) else false) then (decide (v≤999999999)) else false) then (decide ((Lib.itoa v)=s)) else false)]) (by kernel_rfl) (tup2 (rfl) (lb (by rfl))))))))))))))))))
theorem w186 (hp:PowLaid) (he:ErrLaid) (s:List UInt8) (hl:s.length≤1000000):CallOk Tryz.prog 186 [vS (bsO s)] (lookM []) (.tup [vI (intV s).1,vB (intV s).2]) []:=by
 rcases w256 he s hl with ⟨v,hv,e,h⟩|⟨v,Terr,hv,e,h⟩
 ·rw[e];exact w186o hp s v hv h
 ·rw[e];exact w186n hp s v Terr hv h
theorem w133 (s:List UInt8) (c:UInt8) (hl:s.length≤1000000):CallOk Tryz.prog 133 [vS (bsO s),.pv (.lit (.int .u8 ((UInt8.toNat c:Nat):Int)))] (lookM []) (vL eN (splC c s)) []:=by
 refine cG qf133 rfl (nB rfl) rfl (E rfl (B.nilS (enc:=eN) rfl) (E rfl (B.adopt 6 1 9 rfl rfl) (l4 (fun (i:Nat) (f:Nat) (v:Nat) (out:List (List UInt8))=>[(0,vS (bsO s)),(1,.pv (.lit (.int .u8 ((UInt8.toNat c:Nat):Int)))),(5,.aref 6 v),(6,vI f),(7,vI i)]) (fun _ _ v out=>[(6,.arr v 1 9 (List.map eN out))]) (fun i f _ out=>SpcI c s i f out) (fun i _ _ _=>s.length+1-i) 0 0 0 [] rfl ?_ (sb rfl rfl rfl) ?_)))
 · exact spcI0 s
 intro i f v out hI0
 refine E rfl (B.lenB (a:=s) rfl un9) (Cp rfl rfl (fun h1=>?_) (fun h1=>?_))
 ·have hsp:=spc_at hI0 h1
  refine E rfl (B.lenB (a:=s) rfl un9) (Eg rfl rfl (fun hc=>B.move rfl) rfl (Eg rfl rfl (fun hc=>B.move rfl) rfl (Eg rfl rfl (fun hc=>B.sidx (i:=i) (ev1_gd rfl hc) (ev1_gd rfl hc) un9 rfl (show i<s.length from (by (have hc2:=hc;simp at hc2;omega)))) rfl (Eg rfl rfl (fun hc=>B.move rfl) rfl (Eg rfl rfl (fun hc=>B.eql (ev1_gd rfl hc) (ev1_gd rfl hc)) rfl (E rfl (B.pick rfl rfl rfl rfl (gdB rfl) (pick_or _)) (Cb rfl rfl (fun h2=>?_) (fun h2=>?_))))))))
  ·refine E rfl (B.slMB (a:=s) (i:=f) (j:=i) rfl rfl rfl un9 rfl rfl (by omega) (by omega)) (E rfl (B.runZ (val:=.pv (.slice (List.map eN [(List.drop f (List.take i s))]))) rfl (fun l=>Frz.arr l _ _ _ _ _) rfl) (E rfl (B.append rfl rfl rfl un73 in9 rfl (fun _=>rfl) by9 (by (simp only[List.length_append,List.length_cons,List.length_nil,List.length_take,List.length_drop];omega))) (E rfl (B.add rfl rfl (by unfold R64;omega)) (E rfl (B.add rfl rfl (by unfold R64;omega)) (pk rfl (L4 (i+1) (i+1) (v+1) (out++[(List.drop f (List.take i s))]) ?_ ?_ (sb rfl rfl rfl)))))))
   · exact spc_stepY hI0 h1 h2
   · omega
  ·refine E rfl (B.add rfl rfl (by unfold R64;omega)) (pk rfl (L4 (i+1) f v out ?_ ?_ (sb rfl rfl rfl)))
   · exact spc_stepN hI0 h1 h2
   · omega
 ·exact Fz 9 5 rfl rfl rfl (Rt rfl (leaf (val0:=vL eN out) (by kernel_rfl) (lsl (by exact spc_out hI0 h1))))
theorem w132 (l:List (List UInt8)) (hl:l.length≤2000000):CallOk Tryz.prog 132 [vL eN l] (lookM []) (vL eN (fullW l)) []:=by
 refine cG qf132 rfl (nB rfl) rfl ?_
 have hsl:=Nat.le_refl l.length
 refine E rfl (B.nilS (enc:=eN) rfl) (E rfl (B.adopt 4 1 9 rfl rfl) (l3 (fun (k:Nat) (v:Nat) (out:List (List UInt8))=>[(0,vL eN l),(3,.aref 4 v),(4,vI k)]) (fun _ v out=>[(4,.arr v 1 9 (List.map eN out))]) (fun k _ out=>k≤l.length∧out.length≤k∧out=fullW (List.take k l)) (fun k _ _=>l.length-k) 0 0 [] rfl ?_ (sb rfl rfl rfl) ?_))
 · exact⟨Nat.zero_le _,Nat.zero_le _,rfl⟩
 intro k v out hI0
 refine E rfl (B.lenL rfl un73) (Cp rfl rfl (fun h1=>?_) (fun h1=>?_))
 ·refine E rfl (B.idx (z:=[]) (i:=k) rfl rfl un73 sz9 (fun _=>rfl) rfl (by omega)) (E rfl (B.sneB (a:=(List.getD l k [])) (b:=[]) rfl rfl) (Cp rfl rfl (fun h2=>?_) (fun h2=>?_)))
  ·refine E rfl (B.idx (z:=[]) (i:=k) rfl rfl un73 sz9 (fun _=>rfl) rfl (by omega)) (E rfl (B.runZ (val:=.pv (.slice (List.map eN [(List.getD l k [])]))) rfl (fun l=>Frz.arr l _ _ _ _ _) rfl) (E rfl (B.append rfl rfl rfl un73 in9 rfl (fun _=>rfl) by9 (by (simp only[List.length_append,List.length_cons,List.length_nil];omega))) (E rfl (B.add rfl rfl (by unfold R64;omega)) (pk rfl (L3 (k+1) (v+1) (out++[(List.getD l k [])]) ?_ ?_ (sb rfl rfl rfl))))))
   ·
     refine⟨by omega,by (simp only[List.length_append,List.length_cons,List.length_nil];omega),?_⟩;rw[fullW_take (by omega),if_pos (by assumption),hI0.2.2]
   · omega
  ·refine E rfl (B.add rfl rfl (by unfold R64;omega)) (pk rfl (L3 (k+1) v out ?_ ?_ (sb rfl rfl rfl)))
   ·
     refine⟨by omega,by omega,?_⟩;rw[fullW_take (by omega),if_neg (by assumption),hI0.2.2]
   · omega
 ·exact Fz 7 3 rfl rfl rfl (Rt rfl (leaf (val0:=vL eN out) (by kernel_rfl) (lsl (by rw[hI0.2.2,List.take_of_length_le (by omega)]))))
theorem w128 (hp:PowLaid) (s:List UInt8) (hl:s.length≤1000000):CallOk Tryz.prog 128 [vS (bsO s)] (lookM []) (vL eN (wordsP s)) []:=by
 refine cG qf128 rfl (nB rfl) rfl ?_
 have hsl:=splS_len s
 refine E rfl (B.nilS (enc:=eN) rfl) (E rfl (B.adopt 4 1 9 rfl rfl) (C rfl (w116 hp s hl) rfl rfl rfl (E rfl (B.lenL rfl un73) (l3 (fun (k:Nat) (v:Nat) (out:List (List UInt8))=>[(3,.aref 4 v),(7,vL eN (splS s)),(8,vI ((List.length (splS s):Nat):Int)),(9,vI k)]) (fun _ v out=>[(4,.arr v 1 9 (List.map eN out))]) (fun k _ out=>k≤List.length (splS s)∧out.length≤k∧out=fullW (List.take k (splS s))) (fun k _ _=>List.length (splS s)-k) 0 0 [] rfl ?_ (sb rfl rfl rfl) ?_))))
 · exact⟨Nat.zero_le _,Nat.zero_le _,rfl⟩
 intro k v out hI0
 refine Cp rfl rfl (fun h1=>?_) (fun h1=>?_)
 ·refine E rfl (B.idx (z:=[]) (i:=k) rfl rfl un73 sz9 (fun _=>rfl) rfl (by omega)) (E rfl (B.sneB (a:=(List.getD (splS s) k [])) (b:=[]) rfl rfl) (Cp rfl rfl (fun h2=>?_) (fun h2=>?_)))
  ·refine E rfl (B.runZ (val:=.pv (.slice (List.map eN [(List.getD (splS s) k [])]))) rfl (fun l=>Frz.arr l _ _ _ _ _) rfl) (E rfl (B.append rfl rfl rfl un73 in9 rfl (fun _=>rfl) by9 (by (simp only[List.length_append,List.length_cons,List.length_nil];omega))) (E rfl (B.add rfl rfl (by unfold R64;omega)) (pk rfl (L3 (k+1) (v+1) (out++[(List.getD (splS s) k [])]) ?_ ?_ (sb rfl rfl rfl)))))
   ·
     refine⟨by omega,by (simp only[List.length_append,List.length_cons,List.length_nil];omega),?_⟩;rw[fullW_take (by omega),if_pos (by assumption),hI0.2.2]
   · omega
  ·refine E rfl (B.add rfl rfl (by unfold R64;omega)) (pk rfl (L3 (k+1) v out ?_ ?_ (sb rfl rfl rfl)))
   ·
     refine⟨by omega,by omega,?_⟩;rw[fullW_take (by omega),if_neg (by assumption),hI0.2.2]
   · omega
 ·exact Fz 8 3 rfl rfl rfl (Rt rfl (leaf (val0:=vL eN out) (by kernel_rfl) (lsl (by rw[hI0.2.2,List.take_of_length_le (by omega)];rfl))))
theorem w132w (s:List UInt8) (hl:s.length≤1000000):CallOk Tryz.prog 132 [vL eN (splS s)] (lookM []) (vL eN (wordsP s)) []:=w132 (splS s) (by have:=splS_len s;omega)
theorem w133s (s:List UInt8) (hl:s.length≤1000000):CallOk Tryz.prog 133 [vS (bsO s),.pv (.lit (.int .u8 32))] (lookM []) (vL eN (splS s)) []:=by
 have:=w133 s 32 hl
 rwa [splC_32] at this
theorem w133c (s:List UInt8) (hl:s.length≤1000000):CallOk Tryz.prog 133 [vS (bsO s),.pv (.lit (.int .u8 59))] (lookM []) (vL eN (splC 59 s)) []:=w133 s 59 hl
theorem w170c (hp:PowLaid) (s:List UInt8) (c:UInt8) (hl:s.length≤1000000):CallOk Tryz.prog 170 [vS (bsO s),vS (bsO [c]),vI 0,vI (-1)] (lookM []) (vL eN (splC c s)) []:=by
 refine cG qf170 rfl (nB rfl) rfl (E rfl (B.nilS (enc:=eN) rfl) (CF rfl rfl (E rfl (B.seqB (a:=[c]) (b:=[]) rfl rfl) (CF rfl rfl (CT rfl rfl ?_)))))
 have hcl:List.count c s≤s.length:=List.count_le_length
 refine C rfl (w244 hp s c (by omega)) rfl rfl rfl (E rfl (B.add rfl rfl (by unfold R64;omega)) (E rfl (B.lenB (a:=s) rfl un9) (E rfl (B.add rfl rfl (by unfold R64;omega)) (E rfl (B.min rfl rfl) ?_))))
 refine tk 8 rfl ?_
 refine tn ⟨[(0,vS (bsO s)),(1,vS (bsO [c])),(2,vI 0),(3,vI (min (((List.count c s:Nat):Int)+1) ((s.length:Int)+1)))],[]⟩ rfl rfl rfl ?_
 obtain⟨n2,hn2⟩:∃ n2,n2=List.count c s+1:=⟨_,rfl⟩
 rw[show (min (((List.count c s:Nat):Int)+1) ((s.length:Int)+1))=(n2:Int) by omega]
 refine kc (E rfl (B.makeSl (enc:=eN) (sz:=1) (z0:=[]) (n:=n2) (m:=n2) rfl rfl rfl un73 in9 rfl rfl rfl by9 (by omega) rfl rfl) (E rfl (B.sub rfl rfl (by unfold R64;omega)) (l3 (fun (i:Nat) (a:List (List UInt8)) (q:List UInt8)=>[(0,vS (bsO q)),(1,vS (bsO [c])),(2,vI 0),(3,vI ((n2:Int)-1)),(9,.aref 32 0),(10,vI i)]) (fun _ a _=>[(32,.arr 0 1 9 (List.map eN a))]) (fun i a q=>GsC c s n2 i a q) (fun i _ _=>n2-i) 0 (List.replicate n2 []) s rfl ?_ (sb rfl rfl rfl) ?_)))
 · exact⟨List.length_replicate,Nat.le_refl _,by omega,by simp⟩
 intro i a q hI0
 have hal:=hI0.1
 have hil:=hI0.2.2.1
 refine Cp rfl rfl (fun h1=>?_) (fun h1=>?_)
 ·have hql:=hI0.2.1
  refine C rfl (w245 hp q c (by omega)) rfl rfl rfl (Cp rfl rfl (fun h2=>?_) (fun h2=>?_))
  ·have hal:=hI0.1
   have hil:=hI0.2.2.1
   exact E rfl (B.idxE (n:=i) rfl rfl rfl un73 sz9 rfl (by omega)) (E rfl (B.setE (z0:=q) rfl rfl rfl rfl rfl sz9 (by omega) (fun _=>rfl)) (Fz 18 9 rfl rfl rfl (E rfl (B.add rfl rfl (by unfold R64;omega)) (E rfl (B.slT (j:=(i+1)) rfl rfl un73 sz9 (by omega) (by (simp only[List.length_set];omega))) (Rt rfl (leaf (val0:=vL eN (List.take (i+1) (List.set a i q))) (by kernel_rfl) (lsl (by exact gsc_end hI0 (ix_neg (by assumption))))))))))
  ·refine tk 14 rfl ?_
   refine tn ⟨[(0,vS (bsO q)),(1,vS (bsO [c])),(2,vI 0),(3,vI ((n2:Int)-1)),(9,.aref 32 0),(10,vI i),(11,vI (Lib.indexByte q c))],[(32,.arr 0 1 9 (List.map eN a))]⟩ rfl rfl rfl ?_
   obtain⟨m,hm,hmq,hm2,hm3⟩:=ix_nat (show 0≤Lib.indexByte q c by omega)
   rw[hm]
   refine kc (E rfl (B.add rfl rfl (by unfold R64;omega)) (E rfl (B.slHB (a:=q) (j:=(Int.toNat ((m:Int)+0))) rfl rfl un9 (Int.toNat_of_nonneg (by omega)).symm (by omega)) (E rfl (B.idxE (n:=i) rfl rfl rfl un73 sz9 rfl (by omega)) (E rfl (B.setE (z0:=(List.take (Int.toNat ((m:Int)+0)) q)) rfl rfl rfl rfl rfl sz9 (by omega) (fun _=>rfl)) (E rfl (B.lenB1 (c:=c) rfl un9) (E rfl (B.add rfl rfl (by unfold R64;omega)) (E rfl (B.slLB (a:=q) (i:=(m+1)) rfl rfl un9 (by omega) (by omega)) (E rfl (B.add rfl rfl (by unfold R64;omega)) (pk rfl (L3 (i+1) (List.set a i (List.take (Int.toNat ((m:Int)+0)) q)) (List.drop (m+1) q) ?_ ?_ (sb rfl rfl rfl)))))))))))
   · exact gsc_step hI0 hm hmq hm2 hm3
   · omega
 ·have hal:=hI0.1
  have hil:=hI0.2.2.1
  exact E rfl (B.idxE (n:=i) rfl rfl rfl un73 sz9 rfl (by omega)) (E rfl (B.setE (z0:=q) rfl rfl rfl rfl rfl sz9 (by omega) (fun _=>rfl)) (Fz 18 9 rfl rfl rfl (E rfl (B.add rfl rfl (by unfold R64;omega)) (E rfl (B.slT (j:=(i+1)) rfl rfl un73 sz9 (by omega) (by (simp only[List.length_set];omega))) (Rt rfl (leaf (val0:=vL eN (List.take (i+1) (List.set a i q))) (by kernel_rfl) (lsl (by exact gsc_end hI0 (gsc_no hI0 (by assumption))))))))))
theorem w116c (hp:PowLaid) (s:List UInt8) (c:UInt8) (hl:s.length≤1000000):CallOk Tryz.prog 116 [vS (bsO s),vS (bsO [c])] (lookM []) (vL eN (splC c s)) []:=by
 exact cG qf116 rfl (nB rfl) rfl (E rfl (B.nilS (enc:=eN) rfl) (C rfl (w170c hp s c hl) rfl rfl rfl (Rt rfl (leaf rfl rfl))))
theorem w129 (hp:PowLaid) (he:ErrLaid) (s:List UInt8) (hl:s.length≤1000000):CallOk Tryz.prog 129 [vS (bsO s)] (lookM []) (.tup [.pv (gC (cmdV s).1),vB (cmdV s).2]) []:=by
 refine cG qf129 rfl (nB rfl) rfl (C rfl (w128 hp s (by omega)) rfl rfl rfl (E rfl (B.lenL rfl un73) (Cp rfl rfl (fun h1=>?_) (fun h1=>?_))))
 ·exact Rt rfl (leaf (val0:=.tup [.pv (.agg [pS (bsO []),pS (bsO []),pI 0]),vB false]) (by kernel_rfl) (tup2 (lag (lcons (pls (by rw[cv_0 h1])) (lcons (pls (by rw[cv_0 h1])) (lcons (pli (by rw[cv_0 h1])) rfl)))) (lb (by rw[cv_0 h1]))))
 ·refine E rfl (B.idx (z:=[]) (i:=0) rfl rfl un73 sz9 (fun _=>rfl) rfl (by omega)) (E rfl (B.seqB (a:=(List.getD (wordsP s) 0 [])) (b:=[101,110,100]) rfl rfl) (Eg rfl rfl (fun hc=>B.move rfl) rfl (Eg rfl rfl (fun hc=>B.lenL (ev1_gd rfl hc) un73) rfl (Eg rfl rfl (fun hc=>B.eql (ev1_gd rfl hc) rfl) rfl (E rfl (B.pick rfl rfl rfl (gdB rfl) rfl (pick_and _)) (Cb rfl rfl (fun h2=>?_) (fun h2=>?_)))))))
  ·exact Rt rfl (leaf (val0:=.tup [.pv (.agg [pS (bsO (List.getD (wordsP s) 0 [])),pS (bsO []),pI 0]),vB true]) (by kernel_rfl) (tup2 (lag (lcons (pls (by rw[cv_E h1 h2])) (lcons (pls (by rw[cv_E h1 h2])) (lcons (pli (by rw[cv_E h1 h2])) rfl)))) (lb (by rw[cv_E h1 h2]))))
  ·refine E rfl (B.seqB (a:=(List.getD (wordsP s) 0 [])) (b:=[97,99,116]) rfl rfl) (Eg rfl rfl (fun hc=>B.move rfl) rfl (Eg rfl rfl (fun hc=>B.lenL (ev1_gd rfl hc) un73) rfl (Eg rfl rfl (fun hc=>B.eql (ev1_gd rfl hc) rfl) rfl (E rfl (B.pick rfl rfl rfl (gdB rfl) rfl (pick_and _)) (Cb rfl rfl (fun h3=>?_) (fun h3=>?_))))))
   ·have hw2:=cv_two2 h3
    exact E rfl (B.idx (z:=[]) (i:=1) rfl rfl un73 sz9 (fun _=>rfl) rfl (by omega)) (Rt rfl (leaf (val0:=.tup [.pv (.agg [pS (bsO (List.getD (wordsP s) 0 [])),pS (bsO (List.getD (wordsP s) 1 [])),pI 0]),vB true]) (by kernel_rfl) (tup2 (lag (lcons (pls (by rw[cv_A h1 h2 h3])) (lcons (pls (by rw[cv_A h1 h2 h3])) (lcons (pli (by rw[cv_A h1 h2 h3])) rfl)))) (lb (by rw[cv_A h1 h2 h3])))))
   ·refine E rfl (B.seqB (a:=(List.getD (wordsP s) 0 [])) (b:=[119,97,105,116]) rfl rfl) (Eg rfl rfl (fun hc=>B.fadB rfl fa116_0 rfl) rfl (Eg rfl rfl (fun hc=>B.loadB (ev1_gd rfl hc) rfl rfl ag9 sz9 rfl) rfl (Eg rfl rfl (fun hc=>B.seqB (a:=(List.getD (wordsP s) 0 [])) (b:=[114,101,112,101,97,116]) (ev1_gd rfl hc) rfl) rfl (E rfl (B.pick rfl rfl rfl rfl (gdB rfl) (pick_or _)) (Eg rfl rfl (fun hc=>B.move rfl) rfl (Eg rfl rfl (fun hc=>B.lenL (ev1_gd rfl hc) un73) rfl (Eg rfl rfl (fun hc=>B.eql (ev1_gd rfl hc) rfl) rfl (E rfl (B.pick rfl rfl rfl (gdB rfl) rfl (pick_and _)) (Cb rfl rfl (fun h4=>?_) (fun h4=>?_))))))))))
    ·have hw2:=cv_two h4
     have hwm:=wordsP_mem (getD_mem (l:=wordsP s) (k:=1) (z:=[]) (by omega))
     exact E rfl (B.idx (z:=[]) (i:=1) rfl rfl un73 sz9 (fun _=>rfl) rfl (by omega)) (C rfl (w186 hp he (List.getD (wordsP s) 1 []) (by omega)) rfl rfl rfl (Rt rfl (leaf (val0:=.tup [.pv (.agg [pS (bsO (List.getD (wordsP s) 0 [])),pS (bsO []),pI (intV (List.getD (wordsP s) 1 [])).1]),vB (intV (List.getD (wordsP s) 1 [])).2]) (by kernel_rfl) (tup2 (lag (lcons (pls (by rw[cv_I h1 h2 h3 h4])) (lcons (pls (by rw[cv_I h1 h2 h3 h4])) (lcons (pli (by rw[cv_I h1 h2 h3 h4])) rfl)))) (lb (by rw[cv_I h1 h2 h3 h4]))))))
    ·exact Rt rfl (leaf (val0:=.tup [.pv (.agg [pS (bsO (List.getD (wordsP s) 0 [])),pS (bsO []),pI 0]),vB false]) (by kernel_rfl) (tup2 (lag (lcons (pls (by rw[cv_N h1 h2 h3 h4])) (lcons (pls (by rw[cv_N h1 h2 h3 h4])) (lcons (pli (by rw[cv_N h1 h2 h3 h4])) rfl)))) (lb (by rw[cv_N h1 h2 h3 h4]))))
theorem w55 (hp:PowLaid) (he:ErrLaid) (s:List UInt8) (hl:s.length≤1000000):CallOk Tryz.prog 55 [vS (bsO s)] (lookM []) (.tup [vL eC (parScr cmdV s).1,vI (parScr cmdV s).2.1,vI (parScr cmdV s).2.2]) []:=by
 refine cG qf55 rfl (nB rfl) rfl ?_
 have hPl:=splC_len 59 s
 refine E rfl (B.nilS (enc:=eC) rfl) (E rfl (B.lenB (a:=s) rfl un9) (Cp rfl rfl (fun h1=>?_) (fun h1=>?_)))
 ·exact E rfl (B.nilS (enc:=eC) rfl) (Rt rfl (leaf (val0:=.tup [vL eC [],vI 0,vI 26]) (by kernel_rfl) (tup3 (lsl (by rw[parScr_long h1])) (li (by rw[parScr_long h1])) (li (by rw[parScr_long h1])))))
 ·refine C rfl (w128 hp s (by omega)) rfl rfl rfl (E rfl (B.lenL rfl un73) (Cp rfl rfl (fun h2=>?_) (fun h2=>?_)))
  ·exact E rfl (B.nilS (enc:=eC) rfl) (Rt rfl (leaf (val0:=.tup [vL eC [],vI 0,vI 0]) (by kernel_rfl) (tup3 (lsl (by rw[parScr_none h1 h2])) (li (by rw[parScr_none h1 h2])) (li (by rw[parScr_none h1 h2])))))
  ·refine E rfl (B.adopt 6 3 116 rfl rfl) (C rfl (w116c hp s 59 (by omega)) rfl rfl rfl (E rfl (B.lenL rfl un73) (l3 (fun (k:Nat) (v:Nat) (out:List Cmd)=>[(5,.aref 6 v),(19,vL eN (splC 59 s)),(20,vI ((List.length (splC 59 s):Nat):Int)),(21,vI k)]) (fun _ v out=>[(6,.arr v 3 116 (List.map eC out))]) (fun k _ out=>k≤List.length (splC 59 s)∧out.length≤k∧parScr cmdV s=parG cmdV (List.drop k (splC 59 s)) k out) (fun k _ _=>List.length (splC 59 s)-k) 0 0 [] rfl ?_ (sb rfl rfl rfl) ?_)))
   · exact⟨Nat.zero_le _,Nat.zero_le _,parScr_go h1 h2⟩
   intro k v out hI0
   refine Cp rfl rfl (fun h3=>?_) (fun h3=>?_)
   ·refine E rfl (B.idx (z:=[]) (i:=k) rfl rfl un73 sz9 (fun _=>rfl) rfl (by omega)) ?_
    have hpm:=splC_mem (getD_mem (l:=splC 59 s) (k:=k) (z:=[]) (by omega))
    refine C rfl (w129 hp he (List.getD (splC 59 s) k []) (by omega)) rfl rfl rfl (Cb rfl rfl (fun h4=>?_) (fun h4=>?_))
    ·exact E rfl (B.add rfl rfl (by unfold R64;omega)) (E rfl (B.nilS (enc:=eC) rfl) (Rt rfl (leaf (val0:=.tup [vL eC [],vI ((k:Int)+1),vI 25]) (by kernel_rfl) (tup3 (lsl (by rw[hI0.2.2,parG_no (by omega) (bnot_t h4)])) (li (by rw[hI0.2.2,parG_no (by omega) (bnot_t h4)])) (li (by rw[hI0.2.2,parG_no (by omega) (bnot_t h4)]))))))
    ·refine E rfl (B.runZ (val:=.pv (.slice (List.map eC [(cmdV (List.getD (splC 59 s) k [])).1]))) rfl (fun l=>Frz.arr l _ _ _ _ _) rfl) (E rfl (B.append rfl rfl rfl un82 in116 rfl (fun _=>rfl) by116 (by (simp only[List.length_append,List.length_cons,List.length_nil];omega))) (E rfl (B.add rfl rfl (by unfold R64;omega)) (pk rfl (L3 (k+1) (v+1) (out++[(cmdV (List.getD (splC 59 s) k [])).1]) ?_ ?_ (sb rfl rfl rfl)))))
     · (exact⟨by omega,by (simp only[List.length_append,List.length_cons,List.length_nil];omega),hI0.2.2.trans (parG_go (by omega) (bnot_f h4))⟩)
     · omega
   ·refine Fz 14 5 rfl rfl rfl (C rfl (w59 out (by omega)) rfl rfl rfl (Cp rfl rfl (fun h5=>?_) (fun h5=>?_)))
    ·exact E rfl (B.nilS (enc:=eC) rfl) (Rt rfl (leaf (val0:=.tup [vL eC [],vI 0,vI (chkS out)]) (by kernel_rfl) (tup3 (lsl (by rw[hI0.2.2,parG_bad (by omega) h5])) (li (by rw[hI0.2.2,parG_bad (by omega) h5])) (li (by rw[hI0.2.2,parG_bad (by omega) h5])))))
    ·exact Rt rfl (leaf (val0:=.tup [vL eC out,vI 0,vI 0]) (by kernel_rfl) (tup3 (lsl (by rw[hI0.2.2,parG_end (by omega) h5])) (li (by rw[hI0.2.2,parG_end (by omega) h5])) (li (by rw[hI0.2.2,parG_end (by omega) h5]))))
theorem w58 (s:List UInt8) (hl:s.length≤1000000):CallOk Tryz.prog 58 [vS (bsO s)] (lookM []) (.tup [vL eC (parScr cmdR s).1,vI (parScr cmdR s).2.1,vI (parScr cmdR s).2.2]) []:=by
 refine cG qf58 rfl (nB rfl) rfl ?_
 have hPl:=splC_len 59 s
 refine E rfl (B.nilS (enc:=eC) rfl) (E rfl (B.lenB (a:=s) rfl un9) (Cp rfl rfl (fun h1=>?_) (fun h1=>?_)))
 ·exact E rfl (B.nilS (enc:=eC) rfl) (Rt rfl (leaf (val0:=.tup [vL eC [],vI 0,vI 26]) (by kernel_rfl) (tup3 (lsl (by rw[parScr_long h1])) (li (by rw[parScr_long h1])) (li (by rw[parScr_long h1])))))
 ·refine C rfl (w133s s (by omega)) rfl rfl rfl (C rfl (w132w s (by omega)) rfl rfl rfl (E rfl (B.lenL rfl un73) (Cp rfl rfl (fun h2=>?_) (fun h2=>?_))))
  ·exact E rfl (B.nilS (enc:=eC) rfl) (Rt rfl (leaf (val0:=.tup [vL eC [],vI 0,vI 0]) (by kernel_rfl) (tup3 (lsl (by rw[parScr_none h1 h2])) (li (by rw[parScr_none h1 h2])) (li (by rw[parScr_none h1 h2])))))
  ·refine C rfl (w133c s (by omega)) rfl rfl rfl (E rfl (B.adopt 7 3 115 rfl rfl) (l3 (fun (k:Nat) (v:Nat) (out:List Cmd)=>[(5,vL eN (splC 59 s)),(6,.aref 7 v),(7,vI k)]) (fun _ v out=>[(7,.arr v 3 115 (List.map eC out))]) (fun k _ out=>k≤List.length (splC 59 s)∧out.length≤k∧parScr cmdR s=parG cmdR (List.drop k (splC 59 s)) k out) (fun k _ _=>List.length (splC 59 s)-k) 0 0 [] rfl ?_ (sb rfl rfl rfl) ?_))
   · exact⟨Nat.zero_le _,Nat.zero_le _,parScr_go h1 h2⟩
   intro k v out hI0
   refine E rfl (B.lenL rfl un73) (Cp rfl rfl (fun h3=>?_) (fun h3=>?_))
   ·have hpm:=splC_mem (getD_mem (l:=splC 59 s) (k:=k) (z:=[]) (by omega))
    refine E rfl (B.idx (z:=[]) (i:=k) rfl rfl un73 sz9 (fun _=>rfl) rfl (by omega)) (C rfl (w133s (List.getD (splC 59 s) k []) (by omega)) rfl rfl rfl (C rfl (w132w (List.getD (splC 59 s) k []) (by omega)) rfl rfl rfl (E rfl (B.lenL rfl un73) (Eg rfl rfl (fun hc=>B.move rfl) rfl (Eg rfl rfl (fun hc=>B.idx (z:=[]) (i:=0) (ev1_gd rfl hc) rfl un73 sz9 (fun _=>rfl) rfl (by exact gd_len1 hc)) rfl (Eg rfl rfl (fun hc=>B.loadP (ev1_gd rfl hc) ag9 sz9) rfl (Eg rfl rfl (fun hc=>B.call (w134 (List.getD (wordsP (List.getD (splC 59 s) k [])) 0 [])) rfl (ds1 (ev1_gd rfl hc)) rfl) rfl (Eg rfl rfl (fun hc=>B.eql (ev1_gd rfl hc) rfl) rfl (E rfl (B.pick rfl rfl rfl rfl (gdB rfl) (pick_or _)) (Eg rfl rfl (fun hc=>B.move rfl) rfl (Eg rfl rfl (fun hc=>B.lenL (ev1_gd rfl hc) un73) rfl (Eg rfl rfl (fun hc=>B.move rfl) rfl (Eg rfl rfl (fun hc=>B.idx (z:=[]) (i:=0) (ev1_gd rfl hc) rfl un73 sz9 (fun _=>rfl) rfl (by exact gd_len2 hc)) rfl ?_)))))))))))))
    refine Eg rfl rfl (fun hc=>B.loadP (ev1_gd rfl hc) ag9 sz9) rfl (Eg rfl rfl (fun hc=>B.call (w134 (List.getD (wordsP (List.getD (splC 59 s) k [])) 0 [])) rfl (ds1 (ev1_gd rfl hc)) rfl) rfl (Eg rfl rfl (fun hc=>B.neq (ev1_gd rfl hc) (ev1_gd rfl hc)) rfl (E rfl (B.pick rfl rfl rfl rfl (gdB rfl) (pick_or _)) (Cb rfl rfl (fun h4=>?_) (fun h4=>?_)))))
    ·exact E rfl (B.add rfl rfl (by unfold R64;omega)) (E rfl (B.nilS (enc:=eC) rfl) (Rt rfl (leaf (val0:=.tup [vL eC [],vI ((k:Int)+1),vI 25]) (by kernel_rfl) (tup3 (lsl (by rw[hI0.2.2,parG_no (by omega) (cr_B h4)])) (li (by rw[hI0.2.2,parG_no (by omega) (cr_B h4)])) (li (by rw[hI0.2.2,parG_no (by omega) (cr_B h4)]))))))
    ·have hw0:=badR_pos h4
     refine E rfl (B.idx (z:=[]) (i:=0) rfl rfl un73 sz9 (fun _=>rfl) rfl (by omega)) (E rfl (B.seqB (a:=(List.getD (wordsP (List.getD (splC 59 s) k [])) 0 [])) (b:=[97,99,116]) rfl rfl) (Cp rfl rfl (fun h5=>?_) (fun h5=>?_)))
     ·have hw2:=badR_act h4 h5
      refine E rfl (B.idx (z:=[]) (i:=1) rfl rfl un73 sz9 (fun _=>rfl) rfl (by omega)) (E rfl (B.runZ (val:=.pv (.slice (List.map eC [((List.getD (wordsP (List.getD (splC 59 s) k [])) 0 []),(List.getD (wordsP (List.getD (splC 59 s) k [])) 1 []),0)]))) rfl (fun l=>Frz.arr l _ _ _ _ _) rfl) (E rfl (B.append rfl rfl rfl un83 in115 rfl (fun _=>rfl) by115 (by (simp only[List.length_append,List.length_cons,List.length_nil];omega))) (E rfl (B.add rfl rfl (by unfold R64;omega)) (pk rfl (L3 (k+1) (v+1) (out++[((List.getD (wordsP (List.getD (splC 59 s) k [])) 0 []),(List.getD (wordsP (List.getD (splC 59 s) k [])) 1 []),0)]) ?_ ?_ (sb rfl rfl rfl))))))
      · (refine⟨by omega,by (simp only[List.length_append,List.length_cons,List.length_nil];omega),hI0.2.2.trans ?_⟩;exact parG_at (by omega) (cr_A h4 h5))
      · omega
     ·refine E rfl (B.lenL rfl un73) (Cp rfl rfl (fun h6=>?_) (fun h6=>?_))
      ·refine E rfl (B.idx (z:=[]) (i:=1) rfl rfl un73 sz9 (fun _=>rfl) rfl (by omega)) (C rfl (w135 (List.getD (wordsP (List.getD (splC 59 s) k [])) 1 [])) rfl rfl rfl (Cb rfl rfl (fun h7=>?_) (fun h7=>?_)))
       ·exact E rfl (B.add rfl rfl (by unfold R64;omega)) (E rfl (B.nilS (enc:=eC) rfl) (Rt rfl (leaf (val0:=.tup [vL eC [],vI ((k:Int)+1),vI 25]) (by kernel_rfl) (tup3 (lsl (by rw[hI0.2.2,parG_no (by omega) (cr_I h4 h5 h6 h7)])) (li (by rw[hI0.2.2,parG_no (by omega) (cr_I h4 h5 h6 h7)])) (li (by rw[hI0.2.2,parG_no (by omega) (cr_I h4 h5 h6 h7)]))))))
       ·refine E rfl (B.runZ (val:=.pv (.slice (List.map eC [((List.getD (wordsP (List.getD (splC 59 s) k [])) 0 []),[],(Option.getD (intR (List.getD (wordsP (List.getD (splC 59 s) k [])) 1 [])) 0))]))) rfl (fun l=>Frz.arr l _ _ _ _ _) rfl) (E rfl (B.append rfl rfl rfl un83 in115 rfl (fun _=>rfl) by115 (by (simp only[List.length_append,List.length_cons,List.length_nil];omega))) (E rfl (B.add rfl rfl (by unfold R64;omega)) (pk rfl (L3 (k+1) (v+1) (out++[((List.getD (wordsP (List.getD (splC 59 s) k [])) 0 []),[],(Option.getD (intR (List.getD (wordsP (List.getD (splC 59 s) k [])) 1 [])) 0))]) ?_ ?_ (sb rfl rfl rfl)))))
        · (refine⟨by omega,by (simp only[List.length_append,List.length_cons,List.length_nil];omega),hI0.2.2.trans ?_⟩;exact parG_at (by omega) (cr_V h4 h5 h6 h7))
        · omega
      ·refine E rfl (B.runZ (val:=.pv (.slice (List.map eC [((List.getD (wordsP (List.getD (splC 59 s) k [])) 0 []),[],0)]))) rfl (fun l=>Frz.arr l _ _ _ _ _) rfl) (E rfl (B.append rfl rfl rfl un83 in115 rfl (fun _=>rfl) by115 (by (simp only[List.length_append,List.length_cons,List.length_nil];omega))) (E rfl (B.add rfl rfl (by unfold R64;omega)) (pk rfl (L3 (k+1) (v+1) (out++[((List.getD (wordsP (List.getD (splC 59 s) k [])) 0 []),[],0)]) ?_ ?_ (sb rfl rfl rfl)))))
       · (refine⟨by omega,by (simp only[List.length_append,List.length_cons,List.length_nil];omega),hI0.2.2.trans ?_⟩;exact parG_at (by omega) (cr_N h4 h5 h6))
       · omega
   ·refine Fz 22 6 rfl rfl rfl (C rfl (w56 out (by omega)) rfl rfl rfl (Cp rfl rfl (fun h8=>?_) (fun h8=>?_)))
    ·exact E rfl (B.nilS (enc:=eC) rfl) (Rt rfl (leaf (val0:=.tup [vL eC [],vI 0,vI (chkS out)]) (by kernel_rfl) (tup3 (lsl (by (rw[hI0.2.2,parG_bad (by omega) (by assumption)]))) (li (by (rw[hI0.2.2,parG_bad (by omega) (by assumption)]))) (li (by (rw[hI0.2.2,parG_bad (by omega) (by assumption)]))))))
    ·exact Rt rfl (leaf (val0:=.tup [vL eC out,vI 0,vI 0]) (by kernel_rfl) (tup3 (lsl (by (rw[hI0.2.2,parG_end (by omega) (by assumption)]))) (li (by (rw[hI0.2.2,parG_end (by omega) (by assumption)]))) (li (by (rw[hI0.2.2,parG_end (by omega) (by assumption)])))))
theorem w127 (hp:PowLaid) (hj2:Join2Ok) (l:List Cmd) (hc:∀ c∈l,chkC c=0) (hl:l.length≤64):CallOk Tryz.prog 127 [vL eC l] (lookM []) (vS (bsO (prtS l))) []:=by
 refine cG qf127 rfl (nB rfl) rfl (E rfl (B.adopt 4 1 9 rfl rfl) (E rfl (B.lenL rfl un82) (l3 (fun (k:Nat) (v:Nat) (out:List (List UInt8))=>[(3,.aref 4 v),(6,vL eC l),(7,vI l.length),(8,vI k)]) (fun _ v out=>[(4,.arr v 1 9 (List.map eN out))]) (fun k _ out=>k≤l.length∧out.length=k∧out=List.map prtW (List.take k l)) (fun k _ _=>l.length-k) 0 0 [] rfl ?_ (sb rfl rfl rfl) ?_)))
 · exact⟨Nat.zero_le _,rfl,rfl⟩
 intro k v out hI0
 refine Cp rfl rfl (fun h1=>?_) (fun h1=>?_)
 ·refine E rfl (B.idx (z:=z3) (i:=k) rfl rfl un82 sz116 (fun _=>rfl) rfl (by omega)) ?_
  have hck:=hc _ (getD_mem (l:=l) (k:=k) (z:=z3) (by omega))
  have hcs:=cmd_sz hck
  refine E rfl (B.seqB (a:=(List.getD l k z3).1) (b:=[97,99,116]) rfl rfl) (Cp rfl rfl (fun h2=>?_) (fun h2=>?_))
  ·refine E rfl (B.catB (a:=[97,99,116,32]) (b:=(List.getD l k z3).2.1) rfl rfl (by (simp only[List.length_append,List.length_cons,List.length_nil];omega))) (E rfl (B.runZ (val:=.pv (.slice (List.map eN [([97,99,116,32]++(List.getD l k z3).2.1)]))) rfl (fun l=>Frz.arr l _ _ _ _ _) rfl) (E rfl (B.append rfl rfl rfl un73 in9 rfl (fun _=>rfl) by9 (by (simp only[List.length_append,List.length_cons,List.length_nil];omega))) (E rfl (B.add rfl rfl (by unfold R64;omega)) (pk rfl (L3 (k+1) (v+1) (out++[([97,99,116,32]++(List.getD l k z3).2.1)]) ?_ ?_ (sb rfl rfl rfl))))))
   ·
     refine⟨by omega,by simp only[List.length_append,List.length_cons,List.length_nil];omega,?_⟩;exact prt_next (by omega) hI0.2.2 (by rw[prtW,if_pos h2])
   · omega
  ·refine E rfl (B.seqB (a:=(List.getD l k z3).1) (b:=[101,110,100]) rfl rfl) (Cp rfl rfl (fun h3=>?_) (fun h3=>?_))
   ·refine E rfl (B.runZ (val:=.pv (.slice (List.map eN [[101,110,100]]))) rfl (fun l=>Frz.arr l _ _ _ _ _) rfl) (E rfl (B.append rfl rfl rfl un73 in9 rfl (fun _=>rfl) by9 (by (simp only[List.length_append,List.length_cons,List.length_nil];omega))) (E rfl (B.add rfl rfl (by unfold R64;omega)) (pk rfl (L3 (k+1) (v+1) (out++[[101,110,100]]) ?_ ?_ (sb rfl rfl rfl)))))
    ·
      refine⟨by omega,by simp only[List.length_append,List.length_cons,List.length_nil];omega,?_⟩;exact prt_next (by omega) hI0.2.2 (by rw[prtW,if_neg h2,if_pos h3])
    · omega
   ·have hil:=itoa_len (n:=(List.getD l k z3).2.2) (by omega) (by omega)
    refine E rfl (B.catB (a:=(List.getD l k z3).1) (b:=[32]) rfl rfl (by (simp only[List.length_append,List.length_cons,List.length_nil];omega))) (C rfl (w185 hp (List.getD l k z3).2.2 (by unfold R64;omega)) rfl rfl rfl (E rfl (B.catB (a:=((List.getD l k z3).1++[32])) (b:=(Lib.itoa (List.getD l k z3).2.2)) rfl rfl (by (simp only[List.length_append,List.length_cons,List.length_nil];omega))) (E rfl (B.runZ (val:=.pv (.slice (List.map eN [(((List.getD l k z3).1++[32])++(Lib.itoa (List.getD l k z3).2.2))]))) rfl (fun l=>Frz.arr l _ _ _ _ _) rfl) (E rfl (B.append rfl rfl rfl un73 in9 rfl (fun _=>rfl) by9 (by (simp only[List.length_append,List.length_cons,List.length_nil];omega))) (Dr rfl (by kernel_rfl) (E rfl (B.add rfl rfl (by unfold R64;omega)) (pk rfl (L3 (k+1) (v+1) (out++[(((List.getD l k z3).1++[32])++(Lib.itoa (List.getD l k z3).2.2))]) ?_ ?_ (sb rfl rfl rfl)))))))))
    ·
      refine⟨by omega,by simp only[List.length_append,List.length_cons,List.length_nil];omega,?_⟩;exact prt_next (by omega) hI0.2.2 (by rw[prtW,if_neg h2,if_neg h3])
    · omega
 ·have hou:out=l.map prtW:=by rw[hI0.2.2,List.take_of_length_le (by omega)]
  have hjw:∀ w∈out,w.length≤1000:=by rw[hou];exact prtW_mem hc
  exact Fz 12 3 rfl rfl rfl (C rfl (hj2 out (by omega) hjw) rfl rfl rfl (Rt rfl (leaf (val0:=vS (bsO (joinC out))) (by kernel_rfl) (ls (by exact congrArg (fun z=>bsO (joinC z)) hou)))))
theorem w57 (l:List Cmd) (hc:∀ c∈l,chkC c=0) (hl:l.length≤64):CallOk Tryz.prog 57 [vL eC l] (lookM []) (vS (bsO (prtS l))) []:=by
 refine cG qf57 rfl (nB rfl) rfl (l2 (fun (k:Nat) (s:List UInt8)=>[(0,vL eC l),(3,vS (bsO s)),(4,vI k)]) (fun _ _=>[]) (fun k s=>k≤l.length∧s=prtS (List.take k l)) (fun k _=>l.length-k) 0 [] rfl ?_ (sb rfl rfl rfl) ?_)
 · exact⟨Nat.zero_le _,rfl⟩
 intro k s hI0
 refine E rfl (B.lenL rfl un83) (Cp rfl rfl (fun h1=>?_) (fun h1=>?_))
 ·have hck:=hc _ (getD_mem (l:=l) (k:=k) (z:=z3) (by omega))
  have hcs:=cmd_sz hck
  have hls:s.length≤k*42:=by have hpl:=prtS_len (l:=List.take k l) (fun c h=>hc c (List.mem_of_mem_take h));rw[List.length_take] at hpl;rw[hI0.2];omega
  have hAl:=sA_len s k
  refine Cj [(0,vL eC l),(3,vS (bsO (sA s k))),(4,vI k)] [] rfl rfl rfl (fun h2=>?_) (fun h2=>?_) ?_
  ·replace h2:=of_decide_eq_true h2
   refine E rfl (B.catB (a:=s) (b:=[59,32]) rfl rfl (by (simp only[List.length_append,List.length_cons,List.length_nil];omega))) (pk rfl ?_)
   show Sub _ _ _
   rw[sA,if_pos (by omega)]
   exact sb rfl rfl rfl
  ·replace h2:=of_decide_eq_false h2
   refine pk rfl ?_
   show Sub _ _ _
   rw[sA,if_neg (by omega)]
   exact sb rfl rfl rfl
  ·refine E rfl (B.idx (z:=z3) (i:=k) rfl rfl un83 sz115 (fun _=>rfl) rfl (by omega)) (E rfl (B.catB (a:=(sA s k)) (b:=(List.getD l k z3).1) rfl rfl (by omega)) ?_)
   have hBl:=sB_len (List.getD l k z3) (sA s k++(List.getD l k z3).1)
   have hAo:(sA s k++(List.getD l k z3).1).length≤10000:=by simp only[List.length_append];omega
   refine E rfl (B.idx (z:=z3) (i:=k) rfl rfl un83 sz115 (fun _=>rfl) rfl (by omega)) (E rfl (B.sneB (a:=(List.getD l k z3).2.1) (b:=[]) rfl rfl) (Cj [(0,vL eC l),(3,vS (bsO (sB (List.getD l k z3) (sA s k++(List.getD l k z3).1)))),(4,vI k)] [] rfl rfl rfl (fun h3=>?_) (fun h3=>?_) ?_))
   ·replace h3:=of_decide_eq_true h3
    refine E rfl (B.catB (a:=((sA s k)++(List.getD l k z3).1)) (b:=[32]) rfl rfl (by (simp only[List.length_append,List.length_cons,List.length_nil];omega))) (E rfl (B.idx (z:=z3) (i:=k) rfl rfl un83 sz115 (fun _=>rfl) rfl (by omega)) (E rfl (B.catB (a:=(((sA s k)++(List.getD l k z3).1)++[32])) (b:=(List.getD l k z3).2.1) rfl rfl (by (simp only[List.length_append,List.length_cons,List.length_nil];omega))) (pk rfl ?_)))
    show Sub _ _ _
    rw[sB,if_neg (by assumption)]
    exact sb rfl rfl rfl
   ·replace h3:=of_decide_eq_false h3
    refine pk rfl ?_
    show Sub _ _ _
    rw[sB,if_pos (Decidable.not_not.1 (by assumption))]
    exact sb rfl rfl rfl
   ·refine E rfl (B.idx (z:=z3) (i:=k) rfl rfl un83 sz115 (fun _=>rfl) rfl (by omega)) (Cj [(0,vL eC l),(3,vS (bsO (sC (List.getD l k z3) (sB (List.getD l k z3) (sA s k++(List.getD l k z3).1))))),(4,vI k)] [] rfl rfl rfl (fun h4=>?_) (fun h4=>?_) ?_)
    ·replace h4:=of_decide_eq_true h4
     refine E rfl (B.catB (a:=(sB (List.getD l k z3) (sA s k++(List.getD l k z3).1))) (b:=[32]) rfl rfl (by (simp only[List.length_append,List.length_cons,List.length_nil];omega))) (E rfl (B.idx (z:=z3) (i:=k) rfl rfl un83 sz115 (fun _=>rfl) rfl (by omega)) (C rfl (w131 (List.getD l k z3).2.2 (by omega) (by omega)) rfl rfl rfl (E rfl (B.catB (a:=((sB (List.getD l k z3) (sA s k++(List.getD l k z3).1))++[32])) (b:=(Lib.itoa (List.getD l k z3).2.2)) rfl rfl (by (have hil:=itoa_len (n:=(List.getD l k z3).2.2) (by omega) (by omega);simp only[List.length_append,List.length_cons,List.length_nil];omega))) (pk rfl ?_))))
     show Sub _ _ _
     rw[sC,if_neg (by assumption)]
     exact sb rfl rfl rfl
    ·replace h4:=of_decide_eq_false h4
     refine pk rfl ?_
     show Sub _ _ _
     rw[sC,if_pos (Decidable.not_not.1 (by assumption))]
     exact sb rfl rfl rfl
    ·refine E rfl (B.add rfl rfl (by unfold R64;omega)) (pk rfl (L2 (k+1) (sC (List.getD l k z3) (sB (List.getD l k z3) (sA s k++(List.getD l k z3).1))) ?_ ?_ (sb rfl rfl rfl)))
     · exact⟨by omega,src_next hc (by omega) hI0.2⟩
     · omega
 ·exact Rt rfl (leaf (val0:=vS (bsO s)) (by kernel_rfl) (ls (by rw[hI0.2,List.take_of_length_le (by omega)])))
end Go.Lens.Tm
end
section
namespace Go.Lens.Tm
open Go.Lens.Tb Go.Proofs
set_option linter.unusedSectionVars false
abbrev Ev:=Int×List UInt8×List (List UInt8)×List Int×List UInt8
variable [Lz]
def eE (e:Ev):List PV:=[pI e.1,pS (bsO e.2.1),pL eN e.2.2.1,pL eI e.2.2.2.1,pS (bsO e.2.2.2.2)]
abbrev gV (e:Ev):PV:=.agg [pI e.1,pS (bsO e.2.1),pL eN e.2.2.1,pL eI e.2.2.2.1,pS (bsO e.2.2.2.2)]
abbrev bV (t:TypeId) (e:Ev):MO:=.box t [vI e.1,vS (bsO e.2.1),vL eN e.2.2.1,vL eI e.2.2.2.1,vS (bsO e.2.2.2.2)]
abbrev zV:Ev:=(0,[],[],[],[])
abbrev kTar:List UInt8:=[116,97,114,103,101,116]
abbrev kRun:List UInt8:=[114,117,110]
abbrev kObs:List UInt8:=[111,98,115,101,114,118,101]
abbrev kCal:List UInt8:=[99,97,108,105,98,114,97,116,101]
abbrev kUnd:List UInt8:=[117,110,100,111]
def frmK (k:List UInt8):Int×Int×Bool:=if k=kTar then (1,7,true) else if k=kAct then (1,1,true) else if k=kObs then (1,1,true) else if k=kRun then (0,1,true) else if k=kCal then (1,2,true) else if k=kUnd then (0,0,true) else (0,0,false)
def scrB (s:List UInt8):Bool:=decide ((parScr cmdV s).2.2=0)&&(decide (0<(parScr cmdV s).1.length)&&decide (prtS (parScr cmdV s).1=s))
def fldB (s:List UInt8):Bool:=decide ((parF s).2=0)&&decide (prtF (parF s).1=s)
def txtB (e:Ev):Bool:=if e.2.1=kRun then scrB e.2.2.2.2 else if e.2.1=kCal then fldB e.2.2.2.2 else decide (e.2.2.2.2=[])
def namE (l:List (List UInt8)):Int:=if l.all (fun w=>isNameF (bsO w)) then 0 else 8
def valE (l:List Int):Int:=if l.all (fun n=>!outF n 0 999999999) then 0 else 3
def shpB (e:Ev):Bool:=decide (((e.2.2.1.length:Nat):Int)≠(frmK e.2.1).1)||decide (((e.2.2.2.1.length:Nat):Int)≠(frmK e.2.1).2.1)
def chkE (e:Ev):Int:=firstF [withinF e.1 1 1000,whenF (!(frmK e.2.1).2.2) 13,whenF (shpB e) 2,namE e.2.2.1,valE e.2.2.2.1,whenF (!txtB e) 1]
theorem parG_all0 (f:List UInt8→Cmd×Bool):∀ (ps:List (List UInt8)) (i:Nat) (out:List Cmd),(parG f ps i out).1=[]∨chkS (parG f ps i out).1=0
 | [],i,out=>by
  rw[parG]
  split
  ·exact .inl rfl
  ·rename_i h;exact .inr (Decidable.not_not.1 h)
 | p::ps,i,out=>by
  rw[parG]
  split
  ·exact .inl rfl
  ·exact parG_all0 f ps _ _
theorem parScr_all (f:List UInt8→Cmd×Bool) (s:List UInt8):(parScr f s).1=[]∨chkS (parScr f s).1=0:=by
 unfold parScr
 split
 ·exact .inl rfl
 ·split
  ·exact .inl rfl
  ·exact parG_all0 f _ _ _
theorem parScr_fit (f:List UInt8→Cmd×Bool) (s:List UInt8):(parScr f s).1.length≤64∧∀ c∈(parScr f s).1,chkC c=0:=by
 rcases parScr_all f s with h|h
 ·rw[h];exact⟨by simp,fun c hc=>by cases hc⟩
 ·obtain⟨h1,h2,_,_⟩:=chkS_ok h;exact⟨h1,h2⟩
theorem parF_len (s:List UInt8):(parF s).1.length≤1000∧∀ f∈(parF s).1,f.1.length≤1000000∧f.2.length≤1000000:=by
 have h:=parF_fit s
 exact⟨by omega,fun f hf=>by have:=h.2 f hf;omega⟩
section
variable {k:List UInt8}
theorem frm_t (h:k=kTar):frmK k=(1,7,true):=by unfold frmK;rw[if_pos h]
theorem frm_a (h0:¬k=kTar) (h:k=kAct):frmK k=(1,1,true):=by unfold frmK;rw[if_neg h0,if_pos h]
theorem frm_o (h0:¬k=kTar) (h1:¬k=kAct) (h:k=kObs):frmK k=(1,1,true):=by unfold frmK;rw[if_neg h0,if_neg h1,if_pos h]
theorem frm_r (h0:¬k=kTar) (h1:¬k=kAct) (h2:¬k=kObs) (h:k=kRun):frmK k=(0,1,true):=by unfold frmK;rw[if_neg h0,if_neg h1,if_neg h2,if_pos h]
theorem frm_c (h0:¬k=kTar) (h1:¬k=kAct) (h2:¬k=kObs) (h3:¬k=kRun) (h:k=kCal):frmK k=(1,2,true):=by unfold frmK;rw[if_neg h0,if_neg h1,if_neg h2,if_neg h3,if_pos h]
theorem frm_u (h0:¬k=kTar) (h1:¬k=kAct) (h2:¬k=kObs) (h3:¬k=kRun) (h4:¬k=kCal) (h:k=kUnd):frmK k=(0,0,true):=by unfold frmK;rw[if_neg h0,if_neg h1,if_neg h2,if_neg h3,if_neg h4,if_pos h]
theorem frm_n (h0:¬k=kTar) (h1:¬k=kAct) (h2:¬k=kObs) (h3:¬k=kRun) (h4:¬k=kCal) (h:¬k=kUnd):frmK k=(0,0,false):=by unfold frmK;rw[if_neg h0,if_neg h1,if_neg h2,if_neg h3,if_neg h4,if_neg h]
end
end Go.Lens.Tm
end
section
namespace Go.Lens.Tm
open Go.Lens.Tb Go.Proofs
variable [Lz]
set_option linter.unusedSectionVars false
set_option maxHeartbeats 4000000
set_option maxRecDepth 100000
attribute [local irreducible] TK PK T RG EfR Body CG
theorem w204 (s:List UInt8):CallOk Tryz.prog 204 [vS (bsO s)] (lookM []) (vB (decide (s=[]))) []:=by
 exact cG qf204 rfl (nB rfl) rfl (E rfl (B.seqB (a:=s) (b:=[]) rfl rfl) (Rt rfl (leaf rfl rfl)))
theorem w207 (hp:PowLaid) (he:ErrLaid) (hj2:Join2Ok) (s:List UInt8) (hl:s.length≤4000):CallOk Tryz.prog 207 [vS (bsO s)] (lookM []) (vB (scrB s)) []:=by
 exact cG qf207 rfl (nB rfl) rfl (C rfl (w55 hp he s (by omega)) rfl rfl rfl (Eg rfl rfl (fun hc=>B.move rfl) rfl (Eg rfl rfl (fun hc=>B.lenL (ev1_gd rfl hc) un82) rfl (Eg rfl rfl (fun hc=>B.gtr (ev1_gd rfl hc) rfl) rfl (E rfl (B.pick rfl rfl rfl (gdB rfl) rfl (pick_and _)) (Eg rfl rfl (fun hc=>B.move rfl) rfl (Eg rfl rfl (fun hc=>B.call (w127 hp hj2 (parScr cmdV s).1 (parScr_fit cmdV s).2 (parScr_fit cmdV s).1) rfl (ds1 (ev1_gd rfl hc)) rfl) rfl (Eg rfl rfl (fun hc=>B.move rfl) rfl (Eg rfl rfl (fun hc=>B.seqB (a:=(prtS (parScr cmdV s).1)) (b:=s) (ev1_gd rfl hc) (ev1_gd rfl hc)) rfl (E rfl (B.pick rfl rfl rfl (gdB rfl) rfl (pick_and _)) (Rt rfl (leaf (val0:=vB (bif (bif (decide ((parScr cmdV s).2.2=0)) then (decide (0<((List.length (parScr cmdV s).1:Nat):Int))) else false) then (decide ((prtS (parScr cmdV s).1)=s)) else false)) (by kernel_rfl) (lb (by simp only[scrB,bif_and,Bool.and_assoc];congr 2;rw[decide_eq_decide];omega))))))))))))))
theorem w210 (hp:PowLaid) (hj:JoinOk) (s:List UInt8) (hl:s.length≤4000):CallOk Tryz.prog 210 [vS (bsO s)] (lookM []) (vB (fldB s)) []:=by
 exact cG qf210 rfl (nB rfl) rfl (C rfl (w37 hp s (by omega)) rfl rfl rfl (Eg rfl rfl (fun hc=>B.move rfl) rfl (Eg rfl rfl (fun hc=>B.call (w115 hj (parF s).1 (parF_fit s)) rfl (ds1 (ev1_gd rfl hc)) rfl) rfl (Eg rfl rfl (fun hc=>B.move rfl) rfl (Eg rfl rfl (fun hc=>B.seqB (a:=(prtF (parF s).1)) (b:=s) (ev1_gd rfl hc) (ev1_gd rfl hc)) rfl (E rfl (B.pick rfl rfl rfl (gdB rfl) rfl (pick_and _)) (Rt rfl (leaf (val0:=vB (bif (decide ((parF s).2=0)) then (decide ((prtF (parF s).1)=s)) else false)) (by kernel_rfl) (lb (by simp only[fldB,bif_and]))))))))))
theorem w144 (k:List UInt8):CallOk Tryz.prog 144 [vS (bsO k)] (lookM []) (.pv (.agg [pI (frmK k).1,pI (frmK k).2.1,pB (frmK k).2.2])) []:=by
 refine cG qf144 rfl (nB rfl) rfl (E rfl (B.seqB (a:=k) (b:=[116,97,114,103,101,116]) rfl rfl) (Cp rfl rfl (fun h1=>?_) (fun h1=>?_)))
 ·exact Rt rfl (leaf (val0:=.pv (.agg [pI 1,pI 7,pB true])) (by kernel_rfl) (lag (lcons (pli (by rw[frm_t (by assumption)])) (lcons (pli (by rw[frm_t (by assumption)])) (lcons (plb (by rw[frm_t (by assumption)])) rfl)))))
 ·refine E rfl (B.seqB (a:=k) (b:=[97,99,116]) rfl rfl) (Cp rfl rfl (fun h2=>?_) (fun h2=>?_))
  ·refine Cp rfl rfl (fun h3=>?_) (fun h3=>?_)
   ·exact Rt rfl (leaf (val0:=.pv (.agg [pI 1,pI 1,pB true])) (by kernel_rfl) (lag (lcons (pli (by rw[frm_a (by assumption) (by assumption)])) (lcons (pli (by rw[frm_a (by assumption) (by assumption)])) (lcons (plb (by rw[frm_a (by assumption) (by assumption)])) rfl)))))
   ·refine E rfl (B.seqB (a:=k) (b:=[114,117,110]) rfl rfl) (Cp rfl rfl (fun h4=>?_) (fun h4=>?_))
    ·exact Rt rfl (leaf (val0:=.pv (.agg [pI 0,pI 1,pB true])) (by kernel_rfl) (lag (lcons (pli (by (exfalso;contradiction))) (lcons (pli (by (exfalso;contradiction))) (lcons (plb (by (exfalso;contradiction))) rfl)))))
    ·refine E rfl (B.seqB (a:=k) (b:=[99,97,108,105,98,114,97,116,101]) rfl rfl) (Cp rfl rfl (fun h5=>?_) (fun h5=>?_))
     ·exact Rt rfl (leaf (val0:=.pv (.agg [pI 1,pI 2,pB true])) (by kernel_rfl) (lag (lcons (pli (by (exfalso;contradiction))) (lcons (pli (by (exfalso;contradiction))) (lcons (plb (by (exfalso;contradiction))) rfl)))))
     ·refine E rfl (B.seqB (a:=k) (b:=[117,110,100,111]) rfl rfl) (Cp rfl rfl (fun h6=>?_) (fun h6=>?_))
      ·exact Rt rfl (leaf (val0:=.pv (.agg [pI 0,pI 0,pB true])) (by kernel_rfl) (lag (lcons (pli (by (exfalso;contradiction))) (lcons (pli (by (exfalso;contradiction))) (lcons (plb (by (exfalso;contradiction))) rfl)))))
      ·exact Rt rfl (leaf (val0:=.pv (.agg [pI 0,pI 0,pB false])) (by kernel_rfl) (lag (lcons (pli (by (exfalso;contradiction))) (lcons (pli (by (exfalso;contradiction))) (lcons (plb (by (exfalso;contradiction))) rfl)))))
  ·refine E rfl (B.seqB (a:=k) (b:=[111,98,115,101,114,118,101]) rfl rfl) (Cp rfl rfl (fun h7=>?_) (fun h7=>?_))
   ·exact Rt rfl (leaf (val0:=.pv (.agg [pI 1,pI 1,pB true])) (by kernel_rfl) (lag (lcons (pli (by rw[frm_o (by assumption) (by assumption) (by assumption)])) (lcons (pli (by rw[frm_o (by assumption) (by assumption) (by assumption)])) (lcons (plb (by rw[frm_o (by assumption) (by assumption) (by assumption)])) rfl)))))
   ·refine E rfl (B.seqB (a:=k) (b:=[114,117,110]) rfl rfl) (Cp rfl rfl (fun h8=>?_) (fun h8=>?_))
    ·exact Rt rfl (leaf (val0:=.pv (.agg [pI 0,pI 1,pB true])) (by kernel_rfl) (lag (lcons (pli (by rw[frm_r (by assumption) (by assumption) (by assumption) (by assumption)])) (lcons (pli (by rw[frm_r (by assumption) (by assumption) (by assumption) (by assumption)])) (lcons (plb (by rw[frm_r (by assumption) (by assumption) (by assumption) (by assumption)])) rfl)))))
    ·refine E rfl (B.seqB (a:=k) (b:=[99,97,108,105,98,114,97,116,101]) rfl rfl) (Cp rfl rfl (fun h9=>?_) (fun h9=>?_))
     ·exact Rt rfl (leaf (val0:=.pv (.agg [pI 1,pI 2,pB true])) (by kernel_rfl) (lag (lcons (pli (by rw[frm_c (by assumption) (by assumption) (by assumption) (by assumption) (by assumption)])) (lcons (pli (by rw[frm_c (by assumption) (by assumption) (by assumption) (by assumption) (by assumption)])) (lcons (plb (by rw[frm_c (by assumption) (by assumption) (by assumption) (by assumption) (by assumption)])) rfl)))))
     ·refine E rfl (B.seqB (a:=k) (b:=[117,110,100,111]) rfl rfl) (Cp rfl rfl (fun h10=>?_) (fun h10=>?_))
      ·exact Rt rfl (leaf (val0:=.pv (.agg [pI 0,pI 0,pB true])) (by kernel_rfl) (lag (lcons (pli (by rw[frm_u (by assumption) (by assumption) (by assumption) (by assumption) (by assumption) (by assumption)])) (lcons (pli (by rw[frm_u (by assumption) (by assumption) (by assumption) (by assumption) (by assumption) (by assumption)])) (lcons (plb (by rw[frm_u (by assumption) (by assumption) (by assumption) (by assumption) (by assumption) (by assumption)])) rfl)))))
      ·exact Rt rfl (leaf (val0:=.pv (.agg [pI 0,pI 0,pB false])) (by kernel_rfl) (lag (lcons (pli (by rw[frm_n (by assumption) (by assumption) (by assumption) (by assumption) (by assumption) (by assumption)])) (lcons (pli (by rw[frm_n (by assumption) (by assumption) (by assumption) (by assumption) (by assumption) (by assumption)])) (lcons (plb (by rw[frm_n (by assumption) (by assumption) (by assumption) (by assumption) (by assumption) (by assumption)])) rfl)))))
end Go.Lens.Tm
end
section
namespace Go.Lens.Tm
open Go.Lens.Tb Go.Proofs
set_option linter.unusedSectionVars false
variable [Lz]
theorem scr_b (s:List UInt8):(bif (bif (decide ((parScr cmdR s).2.2≠0)) then true else (decide (((parScr cmdR s).1.length:Int)=0))) then true else (decide (prtS (parScr cmdR s).1≠s)))=!(scrB s):=by
 rw[scrB,par_same]
 simp only[bif_or]
 rw[Bool.eq_iff_iff]
 simp only[Bool.or_eq_true,decide_eq_true_eq,Bool.not_eq_true',Bool.and_eq_false_iff,decide_eq_false_iff_not]
 constructor
 ·rintro ((h|h)|h)
  ·exact .inl h
  ·exact .inr (.inl (by omega))
  ·exact .inr (.inr h)
 ·rintro (h|h|h)
  ·exact .inl (.inl h)
  ·exact .inl (.inr (by omega))
  ·exact .inr h
theorem fld_b (s:List UInt8):(bif (decide ((parF s).2≠0)) then true else (decide (prtF (parF s).1≠s)))=!(fldB s):=by
 rw[fldB]
 simp only[bif_or]
 rw[Bool.eq_iff_iff]
 simp only[Bool.or_eq_true,decide_eq_true_eq,Bool.not_eq_true',Bool.and_eq_false_iff,decide_eq_false_iff_not]
section
variable {e:Ev} {b:Bool}
theorem ct_r (h1:e.2.1=kRun) (h2:(bif (bif (decide ((parScr cmdR e.2.2.2.2).2.2≠0)) then true else (decide (((parScr cmdR e.2.2.2.2).1.length:Int)=0))) then true else (decide (prtS (parScr cmdR e.2.2.2.2).1≠e.2.2.2.2)))=b):whenF (!(txtB e)) 1=whenF b 1:=by
 rw[txtB,if_pos h1,←scr_b,h2]
theorem ct_c (h0:¬e.2.1=kRun) (h1:e.2.1=kCal) (h2:(bif (decide ((parF e.2.2.2.2).2≠0)) then true else (decide (prtF (parF e.2.2.2.2).1≠e.2.2.2.2)))=b):whenF (!(txtB e)) 1=whenF b 1:=by
 rw[txtB,if_neg h0,if_pos h1,←fld_b,h2]
theorem ct_n1 (h0:¬e.2.1=kRun) (h1:¬e.2.1=kCal) (h2:e.2.2.2.2≠[]):whenF (!(txtB e)) 1=1:=by
 rw[txtB,if_neg h0,if_neg h1,decide_eq_false h2];rfl
theorem ct_n0 (h0:¬e.2.1=kRun) (h1:¬e.2.1=kCal) (h2:¬e.2.2.2.2≠[]):whenF (!(txtB e)) 1=0:=by
 rw[txtB,if_neg h0,if_neg h1,decide_eq_true (Decidable.not_not.1 h2)];rfl
end
theorem bn_t {b:Bool} (h:(!b)=false):b=true:=by simpa using h
theorem bn_f {b:Bool} (h:(!b)=true):b=false:=by simpa using h
theorem namE_no {l:List (List UInt8)} {k:Nat} (hk:k<l.length) (h:isNameF (bsO (l.getD k []))=false):namE l=8:=by
 unfold namE
 rw[if_neg]
 intro ha
 rw[List.all_eq_true] at ha
 have:=ha _ (getD_mem (z:=[]) hk)
 rw[h] at this;cases this
theorem namE_ok {l:List (List UInt8)} (h:∀ j,j<l.length→isNameF (bsO (l.getD j []))=true):namE l=0:=by
 unfold namE
 rw[if_pos]
 rw[List.all_eq_true]
 intro x hx
 obtain⟨j,hj,rfl⟩:=List.getElem_of_mem hx
 have:=h j hj
 rwa [List.getD_eq_getElem?_getD,List.getElem?_eq_getElem hj] at this
theorem valE_no {l:List Int} {k:Nat} (hk:k<l.length) (h:outF (l.getD k 0) 0 999999999=true):valE l=3:=by
 unfold valE
 rw[if_neg]
 intro ha
 rw[List.all_eq_true] at ha
 have:=ha _ (getD_mem (z:=0) hk)
 rw[h] at this;cases this
theorem valE_ok {l:List Int} (h:∀ j,j<l.length→outF (l.getD j 0) 0 999999999=false):valE l=0:=by
 unfold valE
 rw[if_pos]
 rw[List.all_eq_true]
 intro x hx
 obtain⟨j,hj,rfl⟩:=List.getElem_of_mem hx
 have:=h j hj
 rw[List.getD_eq_getElem?_getD,List.getElem?_eq_getElem hj,Option.getD_some] at this
 rw[this];rfl
section
variable {e:Ev}
theorem firstI (x:Int) (r:List Int):firstF (x::r)=if x=0 then firstF r else x:=rfl
theorem whenff (e:Int):whenF false e=0:=rfl
theorem shp_b (e:Ev):(bif (decide ((e.2.2.1.length:Int)≠(frmK e.2.1).1)) then true else (decide ((e.2.2.2.1.length:Int)≠(frmK e.2.1).2.1)))=shpB e:=by
 rw[bif_or];rfl
theorem shp_ok (h:(bif (decide ((e.2.2.1.length:Int)≠(frmK e.2.1).1)) then true else (decide ((e.2.2.2.1.length:Int)≠(frmK e.2.1).2.1)))=false):(frmK e.2.1).1=(e.2.2.1.length:Int)∧(frmK e.2.1).2.1=(e.2.2.2.1.length:Int):=by
 rw[bif_or,Bool.or_eq_false_iff] at h
 have h1:=of_decide_eq_false h.1
 have h2:=of_decide_eq_false h.2
 omega
theorem ce_rng (h1:outF e.1 1 1000=true):chkE e=3:=by
 rw[chkE,firstI,with_out h1];rfl
theorem ce_kind (h1:outF e.1 1 1000=false) (h2:(!(frmK e.2.1).2.2)=true):chkE e=13:=by
 rw[chkE,firstI,with_in h1,if_pos rfl,firstI,h2];rfl
variable (h1:outF e.1 1 1000=false) (h2:(!(frmK e.2.1).2.2)=false)
include h1 h2
theorem ce_shp (h3:(bif (decide ((e.2.2.1.length:Int)≠(frmK e.2.1).1)) then true else (decide ((e.2.2.2.1.length:Int)≠(frmK e.2.1).2.1)))=true):chkE e=2:=by
 rw[shp_b] at h3
 rw[chkE,firstI,with_in h1,if_pos rfl,firstI,h2,whenff,if_pos rfl,firstI,h3];rfl
theorem ce_mid (h3:(bif (decide ((e.2.2.1.length:Int)≠(frmK e.2.1).1)) then true else (decide ((e.2.2.2.1.length:Int)≠(frmK e.2.1).2.1)))=false):chkE e=firstF [namE e.2.2.1,valE e.2.2.2.1,whenF (!txtB e) 1]:=by
 rw[shp_b] at h3
 rw[chkE,firstI,with_in h1,if_pos rfl,firstI,h2,whenff,if_pos rfl,firstI,h3,whenff,if_pos rfl]
variable (h3:(bif (decide ((e.2.2.1.length:Int)≠(frmK e.2.1).1)) then true else (decide ((e.2.2.2.1.length:Int)≠(frmK e.2.1).2.1)))=false)
include h3
theorem ce_nam (h4:namE e.2.2.1=8):chkE e=8:=by
 rw[ce_mid h1 h2 h3,firstI,h4];rfl
theorem ce_val (h4:namE e.2.2.1=0) (h5:valE e.2.2.2.1=3):chkE e=3:=by
 rw[ce_mid h1 h2 h3,firstI,h4,if_pos rfl,firstI,h5];rfl
theorem ce_txt (h4:namE e.2.2.1=0) (h5:valE e.2.2.2.1=0):chkE e=whenF (!txtB e) 1:=by
 rw[ce_mid h1 h2 h3,firstI,h4,if_pos rfl,firstI,h5,if_pos rfl]
 exact first_one _
end
end Go.Lens.Tm
end
section
namespace Go.Lens.Tm
open Go.Lens.Tb Go.Proofs
variable [Lz]
set_option linter.unusedSectionVars false
set_option maxHeartbeats 4000000
set_option maxRecDepth 100000
attribute [local irreducible] TK PK T RG EfR Body CG
theorem ag119:aggT tab 119=some true:=by kernel_rfl
theorem ag73:aggT tab 73=some false:=by kernel_rfl
theorem fa119_0:fadQ tab 119 0=some 0:=by kernel_rfl
theorem fa119_1:fadQ tab 119 1=some 1:=by kernel_rfl
theorem fa119_2:fadQ tab 119 2=some 2:=by kernel_rfl
theorem fa119_3:fadQ tab 119 3=some 3:=by kernel_rfl
theorem fa119_4:fadQ tab 119 4=some 4:=by kernel_rfl
theorem fa241_1:fadQ tab 241 1=some 1:=by kernel_rfl
theorem sz119:szT tab 119=some 5:=by kernel_rfl
theorem sz73:szT tab 73=some 1:=by kernel_rfl
theorem w140 (e:Ev) (hl:e.2.2.2.2.length≤4000):CallOk Tryz.prog 140 [.pv (.agg [pI e.1,pS (bsO e.2.1),pL eN e.2.2.1,pL eI e.2.2.2.1,pS (bsO e.2.2.2.2)])] (lookM []) (vI (whenF (!(txtB e)) 1)) []:=by
 refine cG qf140 rfl (nB rfl) rfl (E rfl (B.seqB (a:=e.2.1) (b:=[114,117,110]) rfl rfl) (Cp rfl rfl (fun h1=>?_) (fun h1=>?_)))
 ·refine C rfl (w58 e.2.2.2.2 (by omega)) rfl rfl rfl (Eg rfl rfl (fun hc=>B.move rfl) rfl (Eg rfl rfl (fun hc=>B.lenL (ev1_gd rfl hc) un83) rfl (Eg rfl rfl (fun hc=>B.eql (ev1_gd rfl hc) rfl) rfl (E rfl (B.pick rfl rfl rfl rfl (gdB rfl) (pick_or _)) (Eg rfl rfl (fun hc=>B.move rfl) rfl (Eg rfl rfl (fun hc=>B.call (w57 (parScr cmdR e.2.2.2.2).1 (parScr_fit cmdR _).2 (parScr_fit cmdR _).1) rfl (ds1 (ev1_gd rfl hc)) rfl) rfl (Eg rfl rfl (fun hc=>B.fadB rfl fa119_4 rfl) rfl (Eg rfl rfl (fun hc=>B.loadB (ev1_gd rfl hc) rfl rfl ag9 sz9 rfl) rfl (Eg rfl rfl (fun hc=>B.sneB (a:=(prtS (parScr cmdR e.2.2.2.2).1)) (b:=e.2.2.2.2) (ev1_gd rfl hc) (ev1_gd rfl hc)) rfl (E rfl (B.pick rfl rfl rfl rfl (gdB rfl) (pick_or _)) (Dr rfl (by kernel_rfl) (Cb rfl rfl (fun h2=>?_) (fun h2=>?_)))))))))))))
  ·exact Rt rfl (leaf (val0:=vI 1) (by kernel_rfl) (li (by first
          | (rw[ct_r h1 (by assumption)];rfl)
          | (rw[ct_c h1 (by assumption) (by assumption)];rfl)
          | rw[ct_n1 h1 (by assumption) (by assumption)]
          | rw[ct_n0 h1 (by assumption) (by assumption)])))
  ·exact Rt rfl (leaf (val0:=vI 0) (by kernel_rfl) (li (by first
          | (rw[ct_r h1 (by assumption)];rfl)
          | (rw[ct_c h1 (by assumption) (by assumption)];rfl)
          | rw[ct_n1 h1 (by assumption) (by assumption)]
          | rw[ct_n0 h1 (by assumption) (by assumption)])))
 ·refine E rfl (B.seqB (a:=e.2.1) (b:=[99,97,108,105,98,114,97,116,101]) rfl rfl) (Cp rfl rfl (fun h3=>?_) (fun h3=>?_))
  ·refine C rfl (w40 e.2.2.2.2 (by omega)) rfl rfl rfl (Eg rfl rfl (fun hc=>B.move rfl) rfl (Eg rfl rfl (fun hc=>B.call (w39 (parF e.2.2.2.2).1 (parF_len _).1 (parF_len _).2) rfl (ds1 (ev1_gd rfl hc)) rfl) rfl (Eg rfl rfl (fun hc=>B.fadB rfl fa119_4 rfl) rfl (Eg rfl rfl (fun hc=>B.loadB (ev1_gd rfl hc) rfl rfl ag9 sz9 rfl) rfl (Eg rfl rfl (fun hc=>B.sneB (a:=(prtF (parF e.2.2.2.2).1)) (b:=e.2.2.2.2) (ev1_gd rfl hc) (ev1_gd rfl hc)) rfl (E rfl (B.pick rfl rfl rfl rfl (gdB rfl) (pick_or _)) (Dr rfl (by kernel_rfl) (Cb rfl rfl (fun h4=>?_) (fun h4=>?_)))))))))
   ·exact Rt rfl (leaf (val0:=vI 1) (by kernel_rfl) (li (by first
          | (rw[ct_r h1 (by assumption)];rfl)
          | (rw[ct_c h1 (by assumption) (by assumption)];rfl)
          | rw[ct_n1 h1 (by assumption) (by assumption)]
          | rw[ct_n0 h1 (by assumption) (by assumption)])))
   ·exact Rt rfl (leaf (val0:=vI 0) (by kernel_rfl) (li (by first
          | (rw[ct_r h1 (by assumption)];rfl)
          | (rw[ct_c h1 (by assumption) (by assumption)];rfl)
          | rw[ct_n1 h1 (by assumption) (by assumption)]
          | rw[ct_n0 h1 (by assumption) (by assumption)])))
  ·refine E rfl (B.sneB (a:=e.2.2.2.2) (b:=[]) rfl rfl) (Cp rfl rfl (fun h5=>?_) (fun h5=>?_))
   ·exact Rt rfl (leaf (val0:=vI 1) (by kernel_rfl) (li (by first
          | (rw[ct_r h1 (by assumption)];rfl)
          | (rw[ct_c h1 (by assumption) (by assumption)];rfl)
          | rw[ct_n1 h1 (by assumption) (by assumption)]
          | rw[ct_n0 h1 (by assumption) (by assumption)])))
   ·exact Rt rfl (leaf (val0:=vI 0) (by kernel_rfl) (li (by first
          | (rw[ct_r h1 (by assumption)];rfl)
          | (rw[ct_c h1 (by assumption) (by assumption)];rfl)
          | rw[ct_n1 h1 (by assumption) (by assumption)]
          | rw[ct_n0 h1 (by assumption) (by assumption)])))
theorem w69 (e:Ev) (hl:e.2.2.2.2.length≤4000) (hn:e.2.2.1.length≤1000000000) (hv:e.2.2.2.1.length≤1000000000):CallOk Tryz.prog 69 [.pv (.agg [pI e.1,pS (bsO e.2.1),pL eN e.2.2.1,pL eI e.2.2.2.1,pS (bsO e.2.2.2.2)])] (lookM []) (vI (chkE e)) []:=by
 refine cG qf69 rfl (nB rfl) rfl (C rfl (w93 e.1 1 1000) rfl rfl rfl (Cb rfl rfl (fun h1=>?_) (fun h1=>?_)))
 ·exact Rt rfl (leaf (val0:=vI 3) (by kernel_rfl) (li (by first
          | exact (ce_rng h1).symm
          | exact (ce_kind h1 h2).symm
          | exact (ce_shp h1 h2 h3).symm
          | exact (ce_nam h1 h2 h3 (namE_no (k:=k) (by omega) (bn_f (by assumption)))).symm
          | exact (ce_val h1 h2 h3 (namE_ok fun j hj=>hI0.2 j (by omega)) (valE_no (k:=i) (by omega) (by assumption))).symm
          | exact (ce_txt h1 h2 h3 (namE_ok fun j hj=>hI0.2 j (by omega)) (valE_ok fun j hj=>hI1.2 j (by omega))).symm)))
 ·refine C rfl (w144 e.2.1) rfl rfl rfl (Cb rfl rfl (fun h2=>?_) (fun h2=>?_))
  ·exact Rt rfl (leaf (val0:=vI 13) (by kernel_rfl) (li (by first
          | exact (ce_rng h1).symm
          | exact (ce_kind h1 h2).symm
          | exact (ce_shp h1 h2 h3).symm
          | exact (ce_nam h1 h2 h3 (namE_no (k:=k) (by omega) (bn_f (by assumption)))).symm
          | exact (ce_val h1 h2 h3 (namE_ok fun j hj=>hI0.2 j (by omega)) (valE_no (k:=i) (by omega) (by assumption))).symm
          | exact (ce_txt h1 h2 h3 (namE_ok fun j hj=>hI0.2 j (by omega)) (valE_ok fun j hj=>hI1.2 j (by omega))).symm)))
  ·refine E rfl (B.lenL rfl un73) (Eg rfl rfl (fun hc=>B.fadB rfl fa119_3 rfl) rfl (Eg rfl rfl (fun hc=>B.loadB (ev1_gd rfl hc) rfl rfl ag22 sz22 rfl) rfl (Eg rfl rfl (fun hc=>B.lenL (ev1_gd rfl hc) un22) rfl (Eg rfl rfl (fun hc=>B.fadB rfl fa241_1 rfl) rfl (Eg rfl rfl (fun hc=>B.loadB (ev1_gd rfl hc) rfl rfl ag3 sz3 rfl) rfl (Eg rfl rfl (fun hc=>B.neq (ev1_gd rfl hc) (ev1_gd rfl hc)) rfl (E rfl (B.pick rfl rfl rfl rfl (gdB rfl) (pick_or _)) (Cb rfl rfl (fun h3=>?_) (fun h3=>?_)))))))))
   ·exact Rt rfl (leaf (val0:=vI 2) (by kernel_rfl) (li (by first
          | exact (ce_rng h1).symm
          | exact (ce_kind h1 h2).symm
          | exact (ce_shp h1 h2 h3).symm
          | exact (ce_nam h1 h2 h3 (namE_no (k:=k) (by omega) (bn_f (by assumption)))).symm
          | exact (ce_val h1 h2 h3 (namE_ok fun j hj=>hI0.2 j (by omega)) (valE_no (k:=i) (by omega) (by assumption))).symm
          | exact (ce_txt h1 h2 h3 (namE_ok fun j hj=>hI0.2 j (by omega)) (valE_ok fun j hj=>hI1.2 j (by omega))).symm)))
   ·obtain⟨hz1,hz2⟩:=shp_ok h3
    refine l1 (fun (k:Nat)=>[(1,.bref 2 0),(3,.bref 4 0),(4,vI k)]) (fun _=>[(2,.box 119 [vI e.1,vS (bsO e.2.1),vL eN e.2.2.1,vL eI e.2.2.2.1,vS (bsO e.2.2.2.2)]),(4,.box 241 [vI (frmK e.2.1).1,vI (frmK e.2.1).2.1,vB (frmK e.2.1).2.2])]) (fun k=>k≤e.2.2.1.length∧∀ j,j<k→isNameF (bsO (List.getD e.2.2.1 j []))=true) (fun k=>e.2.2.1.length-k) 0 rfl ?_ (sb rfl rfl rfl) ?_
    · exact⟨Nat.zero_le _,fun j hj=>by omega⟩
    intro k hI0
    refine Cp rfl rfl (fun h4=>?_) (fun h4=>?_)
    ·refine E rfl (B.idx (z:=[]) (i:=k) rfl rfl un73 sz9 (fun _=>rfl) rfl (by omega)) (C rfl (w94 (bsO (List.getD e.2.2.1 k []))) rfl rfl rfl (Cb rfl rfl (fun h5=>?_) (fun h5=>?_)))
     ·exact Rt rfl (leaf (val0:=vI 8) (by kernel_rfl) (li (by first
          | exact (ce_rng h1).symm
          | exact (ce_kind h1 h2).symm
          | exact (ce_shp h1 h2 h3).symm
          | exact (ce_nam h1 h2 h3 (namE_no (k:=k) (by omega) (bn_f (by assumption)))).symm
          | exact (ce_val h1 h2 h3 (namE_ok fun j hj=>hI0.2 j (by omega)) (valE_no (k:=i) (by omega) (by assumption))).symm
          | exact (ce_txt h1 h2 h3 (namE_ok fun j hj=>hI0.2 j (by omega)) (valE_ok fun j hj=>hI1.2 j (by omega))).symm)))
     ·refine E rfl (B.add rfl rfl (by unfold R64;omega)) (pk rfl (L1 (k+1) ?_ ?_ (sb rfl rfl rfl)))
      · (refine⟨by omega,fun j hj=>?_⟩;rcases Nat.lt_succ_iff_lt_or_eq.1 hj with h|h;exact hI0.2 j h;subst h;exact bn_t (by assumption))
      · omega
    ·refine l1 (fun (i:Nat)=>[(1,.bref 2 0),(3,.bref 4 0),(5,vI i)]) (fun _=>[(2,.box 119 [vI e.1,vS (bsO e.2.1),vL eN e.2.2.1,vL eI e.2.2.2.1,vS (bsO e.2.2.2.2)]),(4,.box 241 [vI (frmK e.2.1).1,vI (frmK e.2.1).2.1,vB (frmK e.2.1).2.2])]) (fun i=>i≤e.2.2.2.1.length∧∀ j,j<i→outF (List.getD e.2.2.2.1 j 0) 0 999999999=false) (fun i=>e.2.2.2.1.length-i) 0 rfl ?_ (sb rfl rfl rfl) ?_
     · exact⟨Nat.zero_le _,fun j hj=>by omega⟩
     intro i hI1
     refine Cp rfl rfl (fun h6=>?_) (fun h6=>?_)
     ·refine E rfl (B.idx (z:=0) (i:=i) rfl rfl un22 sz3 (fun _=>rfl) rfl (by omega)) (C rfl (w93 (List.getD e.2.2.2.1 i 0) 0 999999999) rfl rfl rfl (Cb rfl rfl (fun h7=>?_) (fun h7=>?_)))
      ·exact Rt rfl (leaf (val0:=vI 3) (by kernel_rfl) (li (by first
          | exact (ce_rng h1).symm
          | exact (ce_kind h1 h2).symm
          | exact (ce_shp h1 h2 h3).symm
          | exact (ce_nam h1 h2 h3 (namE_no (k:=k) (by omega) (bn_f (by assumption)))).symm
          | exact (ce_val h1 h2 h3 (namE_ok fun j hj=>hI0.2 j (by omega)) (valE_no (k:=i) (by omega) (by assumption))).symm
          | exact (ce_txt h1 h2 h3 (namE_ok fun j hj=>hI0.2 j (by omega)) (valE_ok fun j hj=>hI1.2 j (by omega))).symm)))
      ·refine E rfl (B.add rfl rfl (by unfold R64;omega)) (pk rfl (L1 (i+1) ?_ ?_ (sb rfl rfl rfl)))
       · (refine⟨by omega,fun j hj=>?_⟩;rcases Nat.lt_succ_iff_lt_or_eq.1 hj with h|h;exact hI1.2 j h;subst h;assumption)
       · omega
     ·refine C rfl (w140 e (by omega)) rfl rfl rfl ?_
      exact Rt rfl (leaf (val0:=vI (whenF (!(txtB e)) 1)) (by kernel_rfl) (li (by first
          | exact (ce_rng h1).symm
          | exact (ce_kind h1 h2).symm
          | exact (ce_shp h1 h2 h3).symm
          | exact (ce_nam h1 h2 h3 (namE_no (k:=k) (by omega) (bn_f (by assumption)))).symm
          | exact (ce_val h1 h2 h3 (namE_ok fun j hj=>hI0.2 j (by omega)) (valE_no (k:=i) (by omega) (by assumption))).symm
          | exact (ce_txt h1 h2 h3 (namE_ok fun j hj=>hI0.2 j (by omega)) (valE_ok fun j hj=>hI1.2 j (by omega))).symm)))
end Go.Lens.Tm
end
section
namespace Go.Lens
set_option linter.unusedSectionVars false
variable [Lz]
section
variable {P:Program} {Y:Tab} [TabOk P Y] {nb:Nat} {s:St} {dst:Option Tmp} {ty u:TypeId} {pos:String} {af:Array Edge} {gd:Option (Nat×Bool)} {t:TypeId} {x y:Operand}
theorem B.lookK {h:Nat} {ks vs:List PV} {key z:PV} {r:Option PV} {kt et:TypeId} {kd:TypeDesc} (hx:ev1 s x=.mref h) (hm:lookM s.ms h=some (.map ks vs)) (hy:ev1 s y=.pv key) (und:Y.underlying t=some (.map kt et)) (uk:Y.underlying kt=some kd)
  (hz:(Y.info? et).bind (fun i=>i.zero.bind valPV)=some z) (hpk:plainKey kd key=true) (hks:(plainKeys kd ks&&ks.length==vs.length)=true) (hr:findPV key ks vs=r) :
  Body P Y nb s ⟨dst,.lookup t x y true,ty,pos,af,gd⟩ (.tup [.pv (r.getD z),lit (.bool r.isSome)]) [] [h]:=by
 subst hr
 refine .inr (SBody.of fun σ G a w hv hl I=>?_)
 have hX:=hv x (by simp[Op.operands])
 have hY:=hv y (by simp[Op.operands])
 rw[hx] at hX;rw[hy] at hY
 have hlk:lookM σ.ms h=some (.map ks vs):=by rw[hl h (.inl (by simp))];exact hm
 have hq:lookupQ Y t (mapOf (lookM σ.ms) (.mref h)) (.pv key) true=some (true,.tup [.pv ((findPV key ks vs).getD z),lit (.bool (findPV key ks vs).isSome)]):=by
  have hmo:mapOf (lookM σ.ms) (.mref h)=.pv (.map ks vs):=by simp only[mapOf,hlk]
  rw[hmo]
  simp only[lookupQ,und,uk,hz,hpk,if_true,hks]
 obtain⟨r,h1,h2⟩:=lookupW_sound (P:=P) I.ctxS.sees hq hX hY
 refine⟨r,w,G,.inl ?_,stepped_same I.ctxS h2 (fun k hk=>by simp[DV.refs,DV.refsL,lit] at hk)⟩
 simp only[execOp,Sem.run_bind,h1,Result.andThen_ok,Sem.run_pure]
end
end Go.Lens
end
section
namespace Go.Lens.Tm
open Go.Lens.Tb Go.Proofs
set_option linter.unusedSectionVars false
variable [Lz]
def rowK (a b:Int) (t e:PV):PV:=.agg [pI a,pI b,t,e]
abbrev fK (f:FuncId):PV:=.fn (.func f) [] []
def kindsK:List PV:=[pS (bsO kTar),pS (bsO kAct),pS (bsO kRun),pS (bsO kObs),pS (bsO kCal),pS (bsO kUnd)]
def kindsV:List PV:=[rowK 1 7 (fK 204) (fK 205),rowK 1 1 (fK 204) (fK 206),rowK 0 1 (fK 207) (fK 208),rowK 1 1 (fK 204) (fK 209),rowK 1 2 (fK 210) (fK 211),rowK 0 0 (fK 204) (.lit .nilFunc)]
theorem kinds_run:orc 60 152 2000 [] []=some (.mref 2003,[(2003,.map kindsK kindsV)]):=by kernel_rfl
theorem w152 (hp:PowLaid) (hm:OrcOk Tryz.prog (mergeO 121)):CallOk Tryz.prog 152 [] (lookM []) (.mref 2003) [(2003,.map kindsK kindsV)]:=orc_ok hp hm 60 152 2000 _ _ _ _ kinds_run
theorem beq_bs (a b:List UInt8):((bsO a).toList==(bsO b).toList)=decide (a=b):=by
 rw[Bool.eq_iff_iff];simp[toList_inj,bsO_inj]
theorem find_k (k:List UInt8):findPV (pS (bsO k)) kindsK kindsV =
  if k=kTar then some (rowK 1 7 (fK 204) (fK 205)) else if k=kAct then some (rowK 1 1 (fK 204) (fK 206)) else if k=kRun then some (rowK 0 1 (fK 207) (fK 208)) else if k=kObs then some (rowK 1 1 (fK 204) (fK 209)) else if k=kCal then some (rowK 1 2 (fK 210) (fK 211)) else if k=kUnd then some (rowK 0 0 (fK 204) (.lit .nilFunc)) else none:=by
 simp only[kindsK,kindsV,findPV,beq_bs,decide_eq_true_eq]
end Go.Lens.Tm
end
section
namespace Go.Lens.Tm
open Go.Lens.Tb Go.Proofs
set_option linter.unusedSectionVars false
variable [Lz]
def f3 (e:Ev):Int:=firstF [withinF e.1 1 1000,whenF (!(frmK e.2.1).2.2) 13,whenF (shpB e) 2]
section
variable {e:Ev} {a b:Int} {c:Bool}
theorem f3_eq (h:frmK e.2.1=(a,b,c)):firstF [withinF e.1 1 1000,whenF (!c) 13,whenF (bif (decide ((e.2.2.1.length:Int)≠a)) then true else (decide ((e.2.2.2.1.length:Int)≠b))) 2]=f3 e:=by
 rw[f3,←shp_b,h]
theorem firstF_app:∀ (l r:List Int),firstF (l++r)=if firstF l=0 then firstF r else firstF l
 | [],r=>by rw[List.nil_append];exact (if_pos rfl).symm
 | x::l,r=>by
  rw[List.cons_append,firstI,firstI]
  by_cases h:x=0
  ·simp only[h,if_true];exact firstF_app l r
  ·simp only[h,if_false]
theorem chk_f3 (e:Ev):chkE e=if f3 e=0 then firstF [namE e.2.2.1,valE e.2.2.2.1,whenF (!txtB e) 1] else f3 e:=firstF_app [_,_,_] [_,_,_]
theorem f3_no (h:f3 e≠0):chkE e=f3 e:=by rw[chk_f3,if_neg h]
theorem f3_unk (h:frmK e.2.1=(a,b,false)):f3 e≠0:=by
 rw[f3,h,firstI,firstI]
 by_cases h1:withinF e.1 1 1000=0
 ·rw[if_pos h1]
  show (if (13:Int)=0 then _ else (13:Int))≠0
  simp
 ·rw[if_neg h1];exact h1
theorem when8 {x:Bool} (h:whenF x 8≠0):x=true∧whenF x 8=8:=by
 cases x
 ·exact absurd rfl h
 ·exact⟨rfl,rfl⟩
theorem when80 {x:Bool} (h:¬whenF x 8≠0):x=false:=by
 cases x
 ·rfl
 ·exact absurd (by decide) h
theorem with3 {n x y:Int} (h:withinF n x y≠0):outF n x y=true∧withinF n x y=3:=by
 cases hq:outF n x y
 ·exact absurd (with_in hq) h
 ·exact⟨rfl,with_out hq⟩
theorem with30 {n x y:Int} (h:¬withinF n x y≠0):outF n x y=false:=by
 cases hq:outF n x y
 ·rfl
 ·exact absurd (by rw[with_out hq];decide) h
variable (h:¬f3 e≠0)
include h
theorem pe_nam {k:Nat} (hk:k<e.2.2.1.length) (h4:whenF (!(isNameF (bsO (List.getD e.2.2.1 k [])))) 8≠0):chkE e=whenF (!(isNameF (bsO (List.getD e.2.2.1 k [])))) 8:=by
 have:=when8 h4
 rw[this.2,chk_f3,if_pos (Decidable.not_not.1 h),firstI,namE_no hk (bn_f this.1)];rfl
theorem pe_val (h4:∀ j,j<e.2.2.1.length→isNameF (bsO (List.getD e.2.2.1 j []))=true) {k:Nat} (hk:k<e.2.2.2.1.length) (h5:withinF (List.getD e.2.2.2.1 k 0) 0 999999999≠0):chkE e=withinF (List.getD e.2.2.2.1 k 0) 0 999999999:=by
 have:=with3 h5
 rw[this.2,chk_f3,if_pos (Decidable.not_not.1 h),firstI,namE_ok h4,if_pos rfl,firstI,valE_no hk this.1];rfl
theorem pe_txt (h4:∀ j,j<e.2.2.1.length→isNameF (bsO (List.getD e.2.2.1 j []))=true) (h5:∀ j,j<e.2.2.2.1.length→outF (List.getD e.2.2.2.1 j 0) 0 999999999=false):chkE e=whenF (!txtB e) 1:=by
 rw[chk_f3,if_pos (Decidable.not_not.1 h),firstI,namE_ok h4,if_pos rfl,firstI,valE_ok h5,if_pos rfl]
 exact first_one _
end
theorem txt_run {e:Ev} (h:e.2.1=kRun):txtB e=scrB e.2.2.2.2:=by rw[txtB,if_pos h]
theorem txt_cal {e:Ev} (h:e.2.1=kCal):txtB e=fldB e.2.2.2.2:=by rw[txtB,if_neg (by rw[h];decide),if_pos h]
theorem txt_no {e:Ev} (h:e.2.1≠kRun) (h1:e.2.1≠kCal):txtB e=decide (e.2.2.2.2=[]):=by rw[txtB,if_neg h,if_neg h1]
end Go.Lens.Tm
end
section
namespace Go.Lens.Tm
open Go.Lens.Tb Go.Proofs
variable [Lz]
set_option linter.unusedSectionVars false
set_option maxHeartbeats 4000000
set_option maxRecDepth 100000
attribute [local irreducible] TK PK T RG EfR Body CG
theorem fa254_1:fadQ tab 254 1=some 1:=by kernel_rfl
theorem un256:tab.underlying 256=some (.map 9 254):=by kernel_rfl
theorem w81a (hp:PowLaid) (he:ErrLaid) (hm:OrcOk Tryz.prog (mergeO 121)) (hj:JoinOk) (hj2:Join2Ok) (e:Ev) (a b:Int) (z:PV) (hl:e.2.2.2.2.length≤4000) (hn:e.2.2.1.length≤1000000000) (hv:e.2.2.2.1.length≤1000000000) (hf:findPV (pS (bsO e.2.1)) kindsK kindsV=some (rowK a b (fK 204) z)) (hfr:frmK e.2.1=(a,b,true)) (hk1:e.2.1≠kRun) (hk2:e.2.1≠kCal):CallOk Tryz.prog 81 [.pv (.agg [pI e.1,pS (bsO e.2.1),pL eN e.2.2.1,pL eI e.2.2.2.1,pS (bsO e.2.2.2.2)])] (lookM []) (vI (chkE e)) []:=by
 refine cG qf81 rfl (nB rfl) rfl (E rfl (B.callS (l:=[]) (w152 hp hm) rfl rfl trivial rfl rfl) (E rfl (B.lookK (z:=rowK 0 0 (.lit .nilFunc) (.lit .nilFunc)) rfl rfl rfl un256 un9 (by kernel_rfl) rfl (by kernel_rfl) hf) (Dr rfl (by kernel_rfl) (C rfl (w99 e.1 1 1000) rfl rfl rfl (C rfl (w101 (!true) 13) rfl rfl rfl (E rfl (B.lenL rfl un73) (Eg rfl rfl (fun hc=>B.fadB rfl fa119_3 rfl) rfl (Eg rfl rfl (fun hc=>B.loadB (ev1_gd rfl hc) rfl rfl ag22 sz22 rfl) rfl (Eg rfl rfl (fun hc=>B.lenL (ev1_gd rfl hc) un22) rfl (Eg rfl rfl (fun hc=>B.fadB rfl fa254_1 rfl) rfl (Eg rfl rfl (fun hc=>B.loadB (ev1_gd rfl hc) rfl rfl ag3 sz3 rfl) rfl (Eg rfl rfl (fun hc=>B.neq (ev1_gd rfl hc) (ev1_gd rfl hc)) rfl (E rfl (B.pick rfl rfl rfl rfl (gdB rfl) (pick_or _)) ?_)))))))))))))
 refine C rfl (w101 (bif (decide ((e.2.2.1.length:Int)≠a)) then true else (decide ((e.2.2.2.1.length:Int)≠b))) 2) rfl rfl rfl (E rfl (B.runZ (val:=.pv (.slice (List.map eI [(withinF e.1 1 1000),(whenF (!true) 13),(whenF (bif (decide ((e.2.2.1.length:Int)≠a)) then true else (decide ((e.2.2.2.1.length:Int)≠b))) 2)]))) rfl (fun l=>Frz.arr l _ _ _ _ _) rfl) (C rfl (w100 [(withinF e.1 1 1000),(whenF (!true) 13),(whenF (bif (decide ((e.2.2.1.length:Int)≠a)) then true else (decide ((e.2.2.2.1.length:Int)≠b))) 2)] (nB rfl)) rfl rfl rfl (Dr rfl (by kernel_rfl) ?_)))
 refine tk 3 rfl ?_
 refine tn ⟨[(1,.bref 2 0),(3,.bref 4 0),(5,vI (firstF [(withinF e.1 1 1000),(whenF (!true) 13),(whenF (bif (decide ((e.2.2.1.length:Int)≠a)) then true else (decide ((e.2.2.2.1.length:Int)≠b))) 2)]))],[(2,.box 119 [vI e.1,vS (bsO e.2.1),vL eN e.2.2.1,vL eI e.2.2.2.1,vS (bsO e.2.2.2.2)]),(4,.box 254 [vI a,vI b,.pv (.fn (.func 204) [] []),.pv (z)])]⟩ rfl rfl rfl ?_
 rw[f3_eq hfr]
 refine kc (Cp rfl rfl (fun h1=>?_) (fun h1=>?_))
 ·exact Rt rfl (leaf (val0:=vI (f3 e)) (by kernel_rfl) (li (by first
          | exact (f3_no h1).symm
          | exact (pe_nam h1 (by omega) (by assumption)).symm
          | exact (pe_val h1 (fun j hj=>hI0.2 j (by omega)) (by omega) (by assumption)).symm
          | (rw[pe_txt h1 (fun j hj=>hI0.2 j (by omega)) (fun j hj=>hI1.2 j (by omega)),txt_no hk1 hk2]))))
 ·refine E rfl (B.lenL rfl un73) (l1 (fun (k:Nat)=>[(1,.bref 2 0),(3,.bref 4 0),(46,vL eN e.2.2.1),(47,vI (e.2.2.1.length:Int)),(48,vI k)]) (fun _=>[(2,.box 119 [vI e.1,vS (bsO e.2.1),vL eN e.2.2.1,vL eI e.2.2.2.1,vS (bsO e.2.2.2.2)]),(4,.box 254 [vI a,vI b,.pv (.fn (.func 204) [] []),.pv (z)])]) (fun k=>k≤e.2.2.1.length∧∀ j,j<k→isNameF (bsO (List.getD e.2.2.1 j []))=true) (fun k=>e.2.2.1.length-k) 0 rfl ?_ (sb rfl rfl rfl) ?_)
  · exact⟨Nat.zero_le _,fun j hj=>by omega⟩
  intro k hI0
  refine Cp rfl rfl (fun h2=>?_) (fun h2=>?_)
  ·refine E rfl (B.idx (z:=[]) (i:=k) rfl rfl un73 sz9 (fun _=>rfl) rfl (by omega)) (C rfl (w104 (bsO (List.getD e.2.2.1 k []))) rfl rfl rfl (Cp rfl rfl (fun h3=>?_) (fun h3=>?_)))
   ·exact Rt rfl (leaf (val0:=vI (whenF (!(isNameF (bsO (List.getD e.2.2.1 k [])))) 8)) (by kernel_rfl) (li (by first
          | exact (f3_no h1).symm
          | exact (pe_nam h1 (by omega) (by assumption)).symm
          | exact (pe_val h1 (fun j hj=>hI0.2 j (by omega)) (by omega) (by assumption)).symm
          | (rw[pe_txt h1 (fun j hj=>hI0.2 j (by omega)) (fun j hj=>hI1.2 j (by omega)),txt_no hk1 hk2]))))
   ·refine E rfl (B.add rfl rfl (by unfold R64;omega)) (pk rfl (L1 (k+1) ?_ ?_ (sb rfl rfl rfl)))
    · (refine⟨by omega,fun j hj=>?_⟩;rcases Nat.lt_succ_iff_lt_or_eq.1 hj with h|h;exact hI0.2 j h;subst h;exact bn_t (when80 (by assumption)))
    · omega
  ·refine E rfl (B.lenL rfl un22) (l1 (fun (i:Nat)=>[(1,.bref 2 0),(3,.bref 4 0),(59,vL eI e.2.2.2.1),(60,vI (e.2.2.2.1.length:Int)),(61,vI i)]) (fun _=>[(2,.box 119 [vI e.1,vS (bsO e.2.1),vL eN e.2.2.1,vL eI e.2.2.2.1,vS (bsO e.2.2.2.2)]),(4,.box 254 [vI a,vI b,.pv (.fn (.func 204) [] []),.pv (z)])]) (fun i=>i≤e.2.2.2.1.length∧∀ j,j<i→outF (List.getD e.2.2.2.1 j 0) 0 999999999=false) (fun i=>e.2.2.2.1.length-i) 0 rfl ?_ (sb rfl rfl rfl) ?_)
   · exact⟨Nat.zero_le _,fun j hj=>by omega⟩
   intro i hI1
   refine Cp rfl rfl (fun h4=>?_) (fun h4=>?_)
   ·refine E rfl (B.idx (z:=0) (i:=i) rfl rfl un22 sz3 (fun _=>rfl) rfl (by omega)) (C rfl (w99 (List.getD e.2.2.2.1 i 0) 0 999999999) rfl rfl rfl (Cp rfl rfl (fun h5=>?_) (fun h5=>?_)))
    ·exact Rt rfl (leaf (val0:=vI (withinF (List.getD e.2.2.2.1 i 0) 0 999999999)) (by kernel_rfl) (li (by first
          | exact (f3_no h1).symm
          | exact (pe_nam h1 (by omega) (by assumption)).symm
          | exact (pe_val h1 (fun j hj=>hI0.2 j (by omega)) (by omega) (by assumption)).symm
          | (rw[pe_txt h1 (fun j hj=>hI0.2 j (by omega)) (fun j hj=>hI1.2 j (by omega)),txt_no hk1 hk2]))))
    ·refine E rfl (B.add rfl rfl (by unfold R64;omega)) (pk rfl (L1 (i+1) ?_ ?_ (sb rfl rfl rfl)))
     · (refine⟨by omega,fun j hj=>?_⟩;rcases Nat.lt_succ_iff_lt_or_eq.1 hj with h|h;exact hI1.2 j h;subst h;exact with30 (by assumption))
     · omega
   ·refine C rfl (w204 e.2.2.2.2) rfl rfl rfl (C rfl (w101 (!(decide (e.2.2.2.2=[]))) 1) rfl rfl rfl ?_)
    exact Rt rfl (leaf (val0:=vI (whenF (!(decide (e.2.2.2.2=[]))) 1)) (by kernel_rfl) (li (by first
          | exact (f3_no h1).symm
          | exact (pe_nam h1 (by omega) (by assumption)).symm
          | exact (pe_val h1 (fun j hj=>hI0.2 j (by omega)) (by omega) (by assumption)).symm
          | (rw[pe_txt h1 (fun j hj=>hI0.2 j (by omega)) (fun j hj=>hI1.2 j (by omega)),txt_no hk1 hk2]))))
theorem w81b (hp:PowLaid) (he:ErrLaid) (hm:OrcOk Tryz.prog (mergeO 121)) (hj:JoinOk) (hj2:Join2Ok) (e:Ev) (a b:Int) (z:PV) (hl:e.2.2.2.2.length≤4000) (hn:e.2.2.1.length≤1000000000) (hv:e.2.2.2.1.length≤1000000000) (hf:findPV (pS (bsO e.2.1)) kindsK kindsV=some (rowK a b (fK 207) z)) (hfr:frmK e.2.1=(a,b,true)) (hk1:e.2.1=kRun):CallOk Tryz.prog 81 [.pv (.agg [pI e.1,pS (bsO e.2.1),pL eN e.2.2.1,pL eI e.2.2.2.1,pS (bsO e.2.2.2.2)])] (lookM []) (vI (chkE e)) []:=by
 refine cG qf81 rfl (nB rfl) rfl (E rfl (B.callS (l:=[]) (w152 hp hm) rfl rfl trivial rfl rfl) (E rfl (B.lookK (z:=rowK 0 0 (.lit .nilFunc) (.lit .nilFunc)) rfl rfl rfl un256 un9 (by kernel_rfl) rfl (by kernel_rfl) hf) (Dr rfl (by kernel_rfl) (C rfl (w99 e.1 1 1000) rfl rfl rfl (C rfl (w101 (!true) 13) rfl rfl rfl (E rfl (B.lenL rfl un73) (Eg rfl rfl (fun hc=>B.fadB rfl fa119_3 rfl) rfl (Eg rfl rfl (fun hc=>B.loadB (ev1_gd rfl hc) rfl rfl ag22 sz22 rfl) rfl (Eg rfl rfl (fun hc=>B.lenL (ev1_gd rfl hc) un22) rfl (Eg rfl rfl (fun hc=>B.fadB rfl fa254_1 rfl) rfl (Eg rfl rfl (fun hc=>B.loadB (ev1_gd rfl hc) rfl rfl ag3 sz3 rfl) rfl (Eg rfl rfl (fun hc=>B.neq (ev1_gd rfl hc) (ev1_gd rfl hc)) rfl (E rfl (B.pick rfl rfl rfl rfl (gdB rfl) (pick_or _)) ?_)))))))))))))
 refine C rfl (w101 (bif (decide ((e.2.2.1.length:Int)≠a)) then true else (decide ((e.2.2.2.1.length:Int)≠b))) 2) rfl rfl rfl (E rfl (B.runZ (val:=.pv (.slice (List.map eI [(withinF e.1 1 1000),(whenF (!true) 13),(whenF (bif (decide ((e.2.2.1.length:Int)≠a)) then true else (decide ((e.2.2.2.1.length:Int)≠b))) 2)]))) rfl (fun l=>Frz.arr l _ _ _ _ _) rfl) (C rfl (w100 [(withinF e.1 1 1000),(whenF (!true) 13),(whenF (bif (decide ((e.2.2.1.length:Int)≠a)) then true else (decide ((e.2.2.2.1.length:Int)≠b))) 2)] (nB rfl)) rfl rfl rfl (Dr rfl (by kernel_rfl) ?_)))
 refine tk 3 rfl ?_
 refine tn ⟨[(1,.bref 2 0),(3,.bref 4 0),(5,vI (firstF [(withinF e.1 1 1000),(whenF (!true) 13),(whenF (bif (decide ((e.2.2.1.length:Int)≠a)) then true else (decide ((e.2.2.2.1.length:Int)≠b))) 2)]))],[(2,.box 119 [vI e.1,vS (bsO e.2.1),vL eN e.2.2.1,vL eI e.2.2.2.1,vS (bsO e.2.2.2.2)]),(4,.box 254 [vI a,vI b,.pv (.fn (.func 207) [] []),.pv (z)])]⟩ rfl rfl rfl ?_
 rw[f3_eq hfr]
 refine kc (Cp rfl rfl (fun h1=>?_) (fun h1=>?_))
 ·exact Rt rfl (leaf (val0:=vI (f3 e)) (by kernel_rfl) (li (by first
          | exact (f3_no h1).symm
          | exact (pe_nam h1 (by omega) (by assumption)).symm
          | exact (pe_val h1 (fun j hj=>hI0.2 j (by omega)) (by omega) (by assumption)).symm
          | (rw[pe_txt h1 (fun j hj=>hI0.2 j (by omega)) (fun j hj=>hI1.2 j (by omega)),txt_run hk1]))))
 ·refine E rfl (B.lenL rfl un73) (l1 (fun (k:Nat)=>[(1,.bref 2 0),(3,.bref 4 0),(46,vL eN e.2.2.1),(47,vI (e.2.2.1.length:Int)),(48,vI k)]) (fun _=>[(2,.box 119 [vI e.1,vS (bsO e.2.1),vL eN e.2.2.1,vL eI e.2.2.2.1,vS (bsO e.2.2.2.2)]),(4,.box 254 [vI a,vI b,.pv (.fn (.func 207) [] []),.pv (z)])]) (fun k=>k≤e.2.2.1.length∧∀ j,j<k→isNameF (bsO (List.getD e.2.2.1 j []))=true) (fun k=>e.2.2.1.length-k) 0 rfl ?_ (sb rfl rfl rfl) ?_)
  · exact⟨Nat.zero_le _,fun j hj=>by omega⟩
  intro k hI0
  refine Cp rfl rfl (fun h2=>?_) (fun h2=>?_)
  ·refine E rfl (B.idx (z:=[]) (i:=k) rfl rfl un73 sz9 (fun _=>rfl) rfl (by omega)) (C rfl (w104 (bsO (List.getD e.2.2.1 k []))) rfl rfl rfl (Cp rfl rfl (fun h3=>?_) (fun h3=>?_)))
   ·exact Rt rfl (leaf (val0:=vI (whenF (!(isNameF (bsO (List.getD e.2.2.1 k [])))) 8)) (by kernel_rfl) (li (by first
          | exact (f3_no h1).symm
          | exact (pe_nam h1 (by omega) (by assumption)).symm
          | exact (pe_val h1 (fun j hj=>hI0.2 j (by omega)) (by omega) (by assumption)).symm
          | (rw[pe_txt h1 (fun j hj=>hI0.2 j (by omega)) (fun j hj=>hI1.2 j (by omega)),txt_run hk1]))))
   ·refine E rfl (B.add rfl rfl (by unfold R64;omega)) (pk rfl (L1 (k+1) ?_ ?_ (sb rfl rfl rfl)))
    · (refine⟨by omega,fun j hj=>?_⟩;rcases Nat.lt_succ_iff_lt_or_eq.1 hj with h|h;exact hI0.2 j h;subst h;exact bn_t (when80 (by assumption)))
    · omega
  ·refine E rfl (B.lenL rfl un22) (l1 (fun (i:Nat)=>[(1,.bref 2 0),(3,.bref 4 0),(59,vL eI e.2.2.2.1),(60,vI (e.2.2.2.1.length:Int)),(61,vI i)]) (fun _=>[(2,.box 119 [vI e.1,vS (bsO e.2.1),vL eN e.2.2.1,vL eI e.2.2.2.1,vS (bsO e.2.2.2.2)]),(4,.box 254 [vI a,vI b,.pv (.fn (.func 207) [] []),.pv (z)])]) (fun i=>i≤e.2.2.2.1.length∧∀ j,j<i→outF (List.getD e.2.2.2.1 j 0) 0 999999999=false) (fun i=>e.2.2.2.1.length-i) 0 rfl ?_ (sb rfl rfl rfl) ?_)
   · exact⟨Nat.zero_le _,fun j hj=>by omega⟩
   intro i hI1
   refine Cp rfl rfl (fun h4=>?_) (fun h4=>?_)
   ·refine E rfl (B.idx (z:=0) (i:=i) rfl rfl un22 sz3 (fun _=>rfl) rfl (by omega)) (C rfl (w99 (List.getD e.2.2.2.1 i 0) 0 999999999) rfl rfl rfl (Cp rfl rfl (fun h5=>?_) (fun h5=>?_)))
    ·exact Rt rfl (leaf (val0:=vI (withinF (List.getD e.2.2.2.1 i 0) 0 999999999)) (by kernel_rfl) (li (by first
          | exact (f3_no h1).symm
          | exact (pe_nam h1 (by omega) (by assumption)).symm
          | exact (pe_val h1 (fun j hj=>hI0.2 j (by omega)) (by omega) (by assumption)).symm
          | (rw[pe_txt h1 (fun j hj=>hI0.2 j (by omega)) (fun j hj=>hI1.2 j (by omega)),txt_run hk1]))))
    ·refine E rfl (B.add rfl rfl (by unfold R64;omega)) (pk rfl (L1 (i+1) ?_ ?_ (sb rfl rfl rfl)))
     · (refine⟨by omega,fun j hj=>?_⟩;rcases Nat.lt_succ_iff_lt_or_eq.1 hj with h|h;exact hI1.2 j h;subst h;exact with30 (by assumption))
     · omega
   ·refine C rfl (w207 hp he hj2 e.2.2.2.2 (by omega)) rfl rfl rfl (C rfl (w101 (!(scrB e.2.2.2.2)) 1) rfl rfl rfl ?_)
    exact Rt rfl (leaf (val0:=vI (whenF (!(scrB e.2.2.2.2)) 1)) (by kernel_rfl) (li (by first
          | exact (f3_no h1).symm
          | exact (pe_nam h1 (by omega) (by assumption)).symm
          | exact (pe_val h1 (fun j hj=>hI0.2 j (by omega)) (by omega) (by assumption)).symm
          | (rw[pe_txt h1 (fun j hj=>hI0.2 j (by omega)) (fun j hj=>hI1.2 j (by omega)),txt_run hk1]))))
theorem w81c (hp:PowLaid) (he:ErrLaid) (hm:OrcOk Tryz.prog (mergeO 121)) (hj:JoinOk) (hj2:Join2Ok) (e:Ev) (a b:Int) (z:PV) (hl:e.2.2.2.2.length≤4000) (hn:e.2.2.1.length≤1000000000) (hv:e.2.2.2.1.length≤1000000000) (hf:findPV (pS (bsO e.2.1)) kindsK kindsV=some (rowK a b (fK 210) z)) (hfr:frmK e.2.1=(a,b,true)) (hk1:e.2.1=kCal):CallOk Tryz.prog 81 [.pv (.agg [pI e.1,pS (bsO e.2.1),pL eN e.2.2.1,pL eI e.2.2.2.1,pS (bsO e.2.2.2.2)])] (lookM []) (vI (chkE e)) []:=by
 refine cG qf81 rfl (nB rfl) rfl (E rfl (B.callS (l:=[]) (w152 hp hm) rfl rfl trivial rfl rfl) (E rfl (B.lookK (z:=rowK 0 0 (.lit .nilFunc) (.lit .nilFunc)) rfl rfl rfl un256 un9 (by kernel_rfl) rfl (by kernel_rfl) hf) (Dr rfl (by kernel_rfl) (C rfl (w99 e.1 1 1000) rfl rfl rfl (C rfl (w101 (!true) 13) rfl rfl rfl (E rfl (B.lenL rfl un73) (Eg rfl rfl (fun hc=>B.fadB rfl fa119_3 rfl) rfl (Eg rfl rfl (fun hc=>B.loadB (ev1_gd rfl hc) rfl rfl ag22 sz22 rfl) rfl (Eg rfl rfl (fun hc=>B.lenL (ev1_gd rfl hc) un22) rfl (Eg rfl rfl (fun hc=>B.fadB rfl fa254_1 rfl) rfl (Eg rfl rfl (fun hc=>B.loadB (ev1_gd rfl hc) rfl rfl ag3 sz3 rfl) rfl (Eg rfl rfl (fun hc=>B.neq (ev1_gd rfl hc) (ev1_gd rfl hc)) rfl (E rfl (B.pick rfl rfl rfl rfl (gdB rfl) (pick_or _)) ?_)))))))))))))
 refine C rfl (w101 (bif (decide ((e.2.2.1.length:Int)≠a)) then true else (decide ((e.2.2.2.1.length:Int)≠b))) 2) rfl rfl rfl (E rfl (B.runZ (val:=.pv (.slice (List.map eI [(withinF e.1 1 1000),(whenF (!true) 13),(whenF (bif (decide ((e.2.2.1.length:Int)≠a)) then true else (decide ((e.2.2.2.1.length:Int)≠b))) 2)]))) rfl (fun l=>Frz.arr l _ _ _ _ _) rfl) (C rfl (w100 [(withinF e.1 1 1000),(whenF (!true) 13),(whenF (bif (decide ((e.2.2.1.length:Int)≠a)) then true else (decide ((e.2.2.2.1.length:Int)≠b))) 2)] (nB rfl)) rfl rfl rfl (Dr rfl (by kernel_rfl) ?_)))
 refine tk 3 rfl ?_
 refine tn ⟨[(1,.bref 2 0),(3,.bref 4 0),(5,vI (firstF [(withinF e.1 1 1000),(whenF (!true) 13),(whenF (bif (decide ((e.2.2.1.length:Int)≠a)) then true else (decide ((e.2.2.2.1.length:Int)≠b))) 2)]))],[(2,.box 119 [vI e.1,vS (bsO e.2.1),vL eN e.2.2.1,vL eI e.2.2.2.1,vS (bsO e.2.2.2.2)]),(4,.box 254 [vI a,vI b,.pv (.fn (.func 210) [] []),.pv (z)])]⟩ rfl rfl rfl ?_
 rw[f3_eq hfr]
 refine kc (Cp rfl rfl (fun h1=>?_) (fun h1=>?_))
 ·exact Rt rfl (leaf (val0:=vI (f3 e)) (by kernel_rfl) (li (by first
          | exact (f3_no h1).symm
          | exact (pe_nam h1 (by omega) (by assumption)).symm
          | exact (pe_val h1 (fun j hj=>hI0.2 j (by omega)) (by omega) (by assumption)).symm
          | (rw[pe_txt h1 (fun j hj=>hI0.2 j (by omega)) (fun j hj=>hI1.2 j (by omega)),txt_cal hk1]))))
 ·refine E rfl (B.lenL rfl un73) (l1 (fun (k:Nat)=>[(1,.bref 2 0),(3,.bref 4 0),(46,vL eN e.2.2.1),(47,vI (e.2.2.1.length:Int)),(48,vI k)]) (fun _=>[(2,.box 119 [vI e.1,vS (bsO e.2.1),vL eN e.2.2.1,vL eI e.2.2.2.1,vS (bsO e.2.2.2.2)]),(4,.box 254 [vI a,vI b,.pv (.fn (.func 210) [] []),.pv (z)])]) (fun k=>k≤e.2.2.1.length∧∀ j,j<k→isNameF (bsO (List.getD e.2.2.1 j []))=true) (fun k=>e.2.2.1.length-k) 0 rfl ?_ (sb rfl rfl rfl) ?_)
  · exact⟨Nat.zero_le _,fun j hj=>by omega⟩
  intro k hI0
  refine Cp rfl rfl (fun h2=>?_) (fun h2=>?_)
  ·refine E rfl (B.idx (z:=[]) (i:=k) rfl rfl un73 sz9 (fun _=>rfl) rfl (by omega)) (C rfl (w104 (bsO (List.getD e.2.2.1 k []))) rfl rfl rfl (Cp rfl rfl (fun h3=>?_) (fun h3=>?_)))
   ·exact Rt rfl (leaf (val0:=vI (whenF (!(isNameF (bsO (List.getD e.2.2.1 k [])))) 8)) (by kernel_rfl) (li (by first
          | exact (f3_no h1).symm
          | exact (pe_nam h1 (by omega) (by assumption)).symm
          | exact (pe_val h1 (fun j hj=>hI0.2 j (by omega)) (by omega) (by assumption)).symm
          | (rw[pe_txt h1 (fun j hj=>hI0.2 j (by omega)) (fun j hj=>hI1.2 j (by omega)),txt_cal hk1]))))
   ·refine E rfl (B.add rfl rfl (by unfold R64;omega)) (pk rfl (L1 (k+1) ?_ ?_ (sb rfl rfl rfl)))
    · (refine⟨by omega,fun j hj=>?_⟩;rcases Nat.lt_succ_iff_lt_or_eq.1 hj with h|h;exact hI0.2 j h;subst h;exact bn_t (when80 (by assumption)))
    · omega
  ·refine E rfl (B.lenL rfl un22) (l1 (fun (i:Nat)=>[(1,.bref 2 0),(3,.bref 4 0),(59,vL eI e.2.2.2.1),(60,vI (e.2.2.2.1.length:Int)),(61,vI i)]) (fun _=>[(2,.box 119 [vI e.1,vS (bsO e.2.1),vL eN e.2.2.1,vL eI e.2.2.2.1,vS (bsO e.2.2.2.2)]),(4,.box 254 [vI a,vI b,.pv (.fn (.func 210) [] []),.pv (z)])]) (fun i=>i≤e.2.2.2.1.length∧∀ j,j<i→outF (List.getD e.2.2.2.1 j 0) 0 999999999=false) (fun i=>e.2.2.2.1.length-i) 0 rfl ?_ (sb rfl rfl rfl) ?_)
   · exact⟨Nat.zero_le _,fun j hj=>by omega⟩
   intro i hI1
   refine Cp rfl rfl (fun h4=>?_) (fun h4=>?_)
   ·refine E rfl (B.idx (z:=0) (i:=i) rfl rfl un22 sz3 (fun _=>rfl) rfl (by omega)) (C rfl (w99 (List.getD e.2.2.2.1 i 0) 0 999999999) rfl rfl rfl (Cp rfl rfl (fun h5=>?_) (fun h5=>?_)))
    ·exact Rt rfl (leaf (val0:=vI (withinF (List.getD e.2.2.2.1 i 0) 0 999999999)) (by kernel_rfl) (li (by first
          | exact (f3_no h1).symm
          | exact (pe_nam h1 (by omega) (by assumption)).symm
          | exact (pe_val h1 (fun j hj=>hI0.2 j (by omega)) (by omega) (by assumption)).symm
          | (rw[pe_txt h1 (fun j hj=>hI0.2 j (by omega)) (fun j hj=>hI1.2 j (by omega)),txt_cal hk1]))))
    ·refine E rfl (B.add rfl rfl (by unfold R64;omega)) (pk rfl (L1 (i+1) ?_ ?_ (sb rfl rfl rfl)))
     · (refine⟨by omega,fun j hj=>?_⟩;rcases Nat.lt_succ_iff_lt_or_eq.1 hj with h|h;exact hI1.2 j h;subst h;exact with30 (by assumption))
     · omega
   ·refine C rfl (w210 hp hj e.2.2.2.2 (by omega)) rfl rfl rfl (C rfl (w101 (!(fldB e.2.2.2.2)) 1) rfl rfl rfl ?_)
    exact Rt rfl (leaf (val0:=vI (whenF (!(fldB e.2.2.2.2)) 1)) (by kernel_rfl) (li (by first
          | exact (f3_no h1).symm
          | exact (pe_nam h1 (by omega) (by assumption)).symm
          | exact (pe_val h1 (fun j hj=>hI0.2 j (by omega)) (by omega) (by assumption)).symm
          | (rw[pe_txt h1 (fun j hj=>hI0.2 j (by omega)) (fun j hj=>hI1.2 j (by omega)),txt_cal hk1]))))
theorem w81n (hp:PowLaid) (he:ErrLaid) (hm:OrcOk Tryz.prog (mergeO 121)) (hj:JoinOk) (hj2:Join2Ok) (e:Ev) (hl:e.2.2.2.2.length≤4000) (hn:e.2.2.1.length≤1000000000) (hv:e.2.2.2.1.length≤1000000000) (hf:findPV (pS (bsO e.2.1)) kindsK kindsV=none) (hfr:frmK e.2.1=(0,0,false)):CallOk Tryz.prog 81 [.pv (.agg [pI e.1,pS (bsO e.2.1),pL eN e.2.2.1,pL eI e.2.2.2.1,pS (bsO e.2.2.2.2)])] (lookM []) (vI (chkE e)) []:=by
 refine cG qf81 rfl (nB rfl) rfl (E rfl (B.callS (l:=[]) (w152 hp hm) rfl rfl trivial rfl rfl) (E rfl (B.lookK (z:=rowK 0 0 (.lit .nilFunc) (.lit .nilFunc)) rfl rfl rfl un256 un9 (by kernel_rfl) rfl (by kernel_rfl) hf) (Dr rfl (by kernel_rfl) (C rfl (w99 e.1 1 1000) rfl rfl rfl (C rfl (w101 (!false) 13) rfl rfl rfl (E rfl (B.lenL rfl un73) (Eg rfl rfl (fun hc=>B.fadB rfl fa119_3 rfl) rfl (Eg rfl rfl (fun hc=>B.loadB (ev1_gd rfl hc) rfl rfl ag22 sz22 rfl) rfl (Eg rfl rfl (fun hc=>B.lenL (ev1_gd rfl hc) un22) rfl (Eg rfl rfl (fun hc=>B.fadB rfl fa254_1 rfl) rfl (Eg rfl rfl (fun hc=>B.loadB (ev1_gd rfl hc) rfl rfl ag3 sz3 rfl) rfl (Eg rfl rfl (fun hc=>B.neq (ev1_gd rfl hc) (ev1_gd rfl hc)) rfl (E rfl (B.pick rfl rfl rfl rfl (gdB rfl) (pick_or _)) ?_)))))))))))))
 refine C rfl (w101 (bif (decide ((e.2.2.1.length:Int)≠0)) then true else (decide ((e.2.2.2.1.length:Int)≠0))) 2) rfl rfl rfl (E rfl (B.runZ (val:=.pv (.slice (List.map eI [(withinF e.1 1 1000),(whenF (!false) 13),(whenF (bif (decide ((e.2.2.1.length:Int)≠0)) then true else (decide ((e.2.2.2.1.length:Int)≠0))) 2)]))) rfl (fun l=>Frz.arr l _ _ _ _ _) rfl) (C rfl (w100 [(withinF e.1 1 1000),(whenF (!false) 13),(whenF (bif (decide ((e.2.2.1.length:Int)≠0)) then true else (decide ((e.2.2.2.1.length:Int)≠0))) 2)] (nB rfl)) rfl rfl rfl (Dr rfl (by kernel_rfl) ?_)))
 refine tk 3 rfl ?_
 refine tn ⟨[(1,.bref 2 0),(3,.bref 4 0),(5,vI (firstF [(withinF e.1 1 1000),(whenF (!false) 13),(whenF (bif (decide ((e.2.2.1.length:Int)≠0)) then true else (decide ((e.2.2.2.1.length:Int)≠0))) 2)]))],[(2,.box 119 [vI e.1,vS (bsO e.2.1),vL eN e.2.2.1,vL eI e.2.2.2.1,vS (bsO e.2.2.2.2)]),(4,.box 254 [vI 0,vI 0,.pv (.lit .nilFunc),.pv (.lit .nilFunc)])]⟩ rfl rfl rfl ?_
 rw[f3_eq hfr]
 refine kc (Cp rfl rfl (fun h1=>?_) (fun h1=>?_))
 ·exact Rt rfl (leaf (val0:=vI (f3 e)) (by kernel_rfl) (li (by exact (f3_no h1).symm)))
 ·exact absurd (f3_unk hfr) h1
end Go.Lens.Tm
end
section
namespace Go.Lens.Tm
open Go.Lens.Tb Go.Proofs
set_option linter.unusedSectionVars false
variable [Lz]
theorem w81 (hp:PowLaid) (he:ErrLaid) (hm:OrcOk Tryz.prog (mergeO 121)) (hj:JoinOk) (hj2:Join2Ok) (e:Ev) (hl:e.2.2.2.2.length≤4000) (hn:e.2.2.1.length≤1000000000) (hv:e.2.2.2.1.length≤1000000000):CallOk Tryz.prog 81 [.pv (gV e)] (lookM []) (vI (chkE e)) []:=by
 by_cases h0:e.2.1=kTar
 ·exact w81a hp he hm hj hj2 e 1 7 (fK 205) hl hn hv (by rw[find_k,if_pos h0]) (frm_t h0) (by rw[h0];decide) (by rw[h0];decide)
 by_cases h1:e.2.1=kAct
 ·exact w81a hp he hm hj hj2 e 1 1 (fK 206) hl hn hv (by rw[find_k,if_neg h0,if_pos h1]) (frm_a h0 h1) (by rw[h1];decide) (by rw[h1];decide)
 by_cases h2:e.2.1=kObs
 ·exact w81a hp he hm hj hj2 e 1 1 (fK 209) hl hn hv (by rw[find_k,if_neg h0,if_neg h1,if_neg (by rw[h2];decide),if_pos h2]) (frm_o h0 h1 h2) (by rw[h2];decide) (by rw[h2];decide)
 by_cases h3:e.2.1=kRun
 ·exact w81b hp he hm hj hj2 e 0 1 (fK 208) hl hn hv (by rw[find_k,if_neg h0,if_neg h1,if_pos h3]) (frm_r h0 h1 h2 h3) h3
 by_cases h4:e.2.1=kCal
 ·exact w81c hp he hm hj hj2 e 1 2 (fK 211) hl hn hv (by rw[find_k,if_neg h0,if_neg h1,if_neg h3,if_neg h2,if_pos h4]) (frm_c h0 h1 h2 h3 h4) h4
 by_cases h5:e.2.1=kUnd
 ·exact w81a hp he hm hj hj2 e 0 0 (.lit .nilFunc) hl hn hv (by rw[find_k,if_neg h0,if_neg h1,if_neg h3,if_neg h2,if_neg h4,if_pos h5]) (frm_u h0 h1 h2 h3 h4 h5) h3 h4
 ·exact w81n hp he hm hj hj2 e hl hn hv (by rw[find_k,if_neg h0,if_neg h1,if_neg h3,if_neg h2,if_neg h4,if_neg h5]) (frm_n h0 h1 h2 h3 h4 h5)
end Go.Lens.Tm
end
section
namespace Go.Lens.Tm
open Go.Lens.Tb Go.Proofs
set_option linter.unusedSectionVars false
variable [Lz]
def sumG:Int→List UInt8→Int
 | x,[]=>x
 | x,b::s=>sumG ((283*x+((b.toNat:Nat):Int))%9999889) s
def pad7 (s:List UInt8):List UInt8:=List.replicate (7-s.length) 48++s
def sumS (s:List UInt8):List UInt8:=pad7 (Lib.itoa (sumG 1 s))
theorem byte_rng (s:List UInt8) (k:Nat):0≤byteAt (bsO s) k∧byteAt (bsO s) k≤255:=by
 have:((bsO s).data.toList.getD k 0).toNat<256:=UInt8.toNat_lt _
 show 0≤((((bsO s).data.toList.getD k 0).toNat:Nat):Int)∧_
 refine⟨by omega,?_⟩
 show ((((bsO s).data.toList.getD k 0).toNat:Nat):Int)≤255
 omega
theorem sumG_step {s:List UInt8} {k:Nat} {x:Int} (h:k<s.length):sumG x (s.drop k)=sumG ((283*x+byteAt (bsO s) k)%9999889) (s.drop (k+1)):=by
 rw[drop_at s k 0 h,sumG];rfl
theorem sumG_rng:∀ (s:List UInt8) (x:Int),0≤x∧x≤9999888→0≤sumG x s∧sumG x s≤9999888
 | [],x,h=>h
 | b::s,x,h=>by
  rw[sumG]
  exact sumG_rng s _ (by omega)
theorem itoa_len7 {n:Int} (h0:0≤n) (h1:n≤9999999):1≤(Lib.itoa n).length∧(Lib.itoa n).length≤7:=by
 obtain⟨k,rfl⟩:∃ k:Nat,n=(k:Int):=⟨n.toNat,by omega⟩
 rw[itoa_nat]
 refine⟨dd_pos k,?_⟩
 rw[Lib.decDigits_length]
 exact nd_le 6 k (by omega)
theorem pad_step {t:List UInt8} (h:(t.length:Int)<7):pad7 ([48]++t)=pad7 t:=by
 have e:7-t.length=(7-(([48]:List UInt8)++t).length)+1:=by simp only[List.length_append,List.length_cons,List.length_nil];omega
 unfold pad7
 rw[e,List.replicate_succ',List.append_assoc]
theorem pad_end {t:List UInt8} (h:¬(t.length:Int)<7):pad7 t=t:=by
 unfold pad7
 rw[show 7-t.length=0 by omega];rfl
theorem pad_len (t:List UInt8) (h:t.length≤7):(pad7 t).length=7:=by
 unfold pad7
 rw[List.length_append,List.length_replicate];omega
theorem sumS_len (s:List UInt8):(sumS s).length=7:=by
 have h:=sumG_rng s 1 (by omega)
 exact pad_len _ (itoa_len7 h.1 (by omega)).2
def tlW (l:List (List UInt8)):List UInt8:=l.flatMap fun x=>32::x
theorem tlW_snoc (l:List (List UInt8)) (w:List UInt8):tlW (l++[w])=(tlW l++[32])++w:=by
 simp[tlW]
theorem tlW_len (N:Nat):∀ (l:List (List UInt8)),(∀ w∈l,w.length≤N)→(tlW l).length≤l.length*(N+1)
 | [],_=>by simp[tlW]
 | a::l,h=>by
  have h1:=tlW_len N l fun w hw=>h w (by simp[hw])
  have h2:=h a (by simp)
  have e:tlW (a::l)=32::a++tlW l:=rfl
  rw[e]
  simp only[List.length_append,List.length_cons,Nat.add_mul,Nat.one_mul]
  omega
def txtW (e:Ev):List (List UInt8):=if e.2.2.2.2=[] then [] else [e.2.2.2.2]
def wrdW (e:Ev):List (List UInt8):=(((([e.2.1]:List (List UInt8))++e.2.2.1)++e.2.2.2.1.map Lib.itoa)++txtW e)
def bodyE (e:Ev):List UInt8:=Lib.itoa e.1++tlW (wrdW e)
theorem body_join (e:Ev):joinF (Lib.itoa e.1::wrdW e)=bodyE e:=rfl
def recE (e:Ev):List UInt8:=((bodyE e++[35])++sumS (bodyE e))++[10]
def logE (l:List Ev):List UInt8:=l.flatMap recE
def JoinW:Prop:=∀ ws:List (List UInt8),ws.length≤1000→(∀ w∈ws,w.length≤1000000)→CallOk Tryz.prog 169 [vL eN ws,vS (bsO [32])] (lookM []) (vS (bsO (joinF ws))) []
theorem rep_runs:(List.range 8).map (fun (k:Nat)=>orc 60 259 0 [vS (bsO [48]),vI ((k:Nat):Int)] [])=(List.range 8).map (fun (k:Nat)=>some (vS (bsO (List.replicate k 48)),[])):=by kernel_rfl
theorem w259 (hp:PowLaid) (hm:OrcOk Tryz.prog (mergeO 121)) (k:Nat) (hk:k<8):CallOk Tryz.prog 259 [vS (bsO [48]),vI ((k:Nat):Int)] (lookM []) (vS (bsO (List.replicate k 48))) []:=
 orc_ok hp hm 60 259 0 _ _ _ _ (List.map_inj_left.1 rep_runs k (List.mem_range.2 hk))
theorem w259i (hp:PowLaid) (hm:OrcOk Tryz.prog (mergeO 121)) (n:Int) (h0:0≤n) (h1:n≤7):CallOk Tryz.prog 259 [vS (bsO [48]),vI n] (lookM []) (vS (bsO (List.replicate n.toNat 48))) []:=by
 have:=w259 hp hm n.toNat (by omega)
 rwa [Int.toNat_of_nonneg h0] at this
end Go.Lens.Tm
end
section
namespace Go.Lens.Tm
open Go.Lens.Tb Go.Proofs
variable [Lz]
set_option linter.unusedSectionVars false
set_option maxHeartbeats 4000000
set_option maxRecDepth 100000
attribute [local irreducible] TK PK T RG EfR Body CG
theorem w191 (hp:PowLaid) (hm:OrcOk Tryz.prog (mergeO 121)) (s:List UInt8) (hl:s.length≤1000000):CallOk Tryz.prog 191 [vS (bsO s)] (lookM []) (vS (bsO (sumS s))) []:=by
 refine cG qf191 rfl (nB rfl) rfl (E rfl (B.lenB (a:=s) rfl un9) (l2 (fun (k:Nat) (x:Int)=>[(0,vS (bsO s)),(3,vI x),(7,vI s.length),(8,vI k)]) (fun _ _=>[]) (fun k x=>k≤s.length∧0≤x∧x≤9999888∧sumG 1 s=sumG x (List.drop k s)) (fun k _=>s.length-k) 0 1 rfl ?_ (sb rfl rfl rfl) ?_))
 · exact⟨Nat.zero_le _,by omega,by omega,rfl⟩
 intro k x hI0
 refine Cp rfl rfl (fun h1=>?_) (fun h1=>?_)
 ·refine E rfl (B.mul rfl rfl (by have hb:=byte_rng s k;unfold R64;omega)) (E rfl (B.sidx (i:=k) rfl rfl un9 rfl (show k<s.length from (by first|omega|(have hb:=byte_rng s k;omega)))) (E rfl (B.toI rfl un5 un3 (by have hb:=byte_rng s k;unfold R64;omega) rfl) (E rfl (B.add rfl rfl (by have hb:=byte_rng s k;unfold R64;omega)) (E rfl (B.remN rfl rfl (by first|omega|(have hb:=byte_rng s k;omega)) (by decide)) (E rfl (B.add rfl rfl (by have hb:=byte_rng s k;unfold R64;omega)) (pk rfl (L2 (k+1) (((283*x)+(byteAt (bsO s) k))%9999889) ?_ ?_ (sb rfl rfl rfl))))))))
  · (refine⟨by omega,by omega,by omega,?_⟩;rw[hI0.2.2.2,sumG_step (by omega)])
  · omega
 ·refine C rfl (w185 hp x (by unfold R64;omega)) rfl rfl rfl ?_
  have hx:x=sumG 1 s:=by rw[hI0.2.2.2,List.drop_of_length_le (by omega)];rfl
  have hil:=itoa_len7 (n:=x) (by omega) (by omega)
  exact E rfl (B.lenB (a:=(Lib.itoa x)) rfl un9) (E rfl (B.sub rfl rfl (by have hb:=byte_rng s k;unfold R64;omega)) (C rfl (w259i hp hm (7-((List.length (Lib.itoa x):Nat):Int)) (by omega) (by omega)) rfl rfl rfl (E rfl (B.catB (a:=(List.replicate (Int.toNat (7-((List.length (Lib.itoa x):Nat):Int))) 48)) (b:=(Lib.itoa x)) rfl rfl (by simp only[List.length_replicate];omega)) (Rt rfl (leaf (val0:=vS (bsO ((List.replicate (Int.toNat (7-((List.length (Lib.itoa x):Nat):Int))) 48)++(Lib.itoa x)))) (by kernel_rfl) (ls (by rw[sumS,←hx,pad7,show Int.toNat (7-((Lib.itoa x).length:Int))=7-(Lib.itoa x).length by omega])))))))
theorem w92 (s:List UInt8) (hl:s.length≤1000000):CallOk Tryz.prog 92 [vS (bsO s)] (lookM []) (vS (bsO (sumS s))) []:=by
 refine cG qf92 rfl (nB rfl) rfl (l2 (fun (k:Nat) (x:Int)=>[(0,vS (bsO s)),(3,vI x),(4,vI k)]) (fun _ _=>[]) (fun k x=>k≤s.length∧0≤x∧x≤9999888∧sumG 1 s=sumG x (List.drop k s)) (fun k _=>s.length-k) 0 1 rfl ?_ (sb rfl rfl rfl) ?_)
 · exact⟨Nat.zero_le _,by omega,by omega,rfl⟩
 intro k x hI0
 refine E rfl (B.lenB (a:=s) rfl un9) (Cp rfl rfl (fun h1=>?_) (fun h1=>?_))
 ·refine E rfl (B.mul rfl rfl (by have hb:=byte_rng s k;unfold R64;omega)) (E rfl (B.sidx (i:=k) rfl rfl un9 rfl (show k<s.length from (by first|omega|(have hb:=byte_rng s k;omega)))) (E rfl (B.toI rfl un5 un3 (by have hb:=byte_rng s k;unfold R64;omega) rfl) (E rfl (B.add rfl rfl (by have hb:=byte_rng s k;unfold R64;omega)) (E rfl (B.remN rfl rfl (by first|omega|(have hb:=byte_rng s k;omega)) (by decide)) (E rfl (B.add rfl rfl (by have hb:=byte_rng s k;unfold R64;omega)) (pk rfl (L2 (k+1) (((283*x)+(byteAt (bsO s) k))%9999889) ?_ ?_ (sb rfl rfl rfl))))))))
  · (refine⟨by omega,by omega,by omega,?_⟩;rw[hI0.2.2.2,sumG_step (by omega)])
  · omega
 ·refine C rfl (w131 x (by omega) (by omega)) rfl rfl rfl (l1 (fun (t:List UInt8)=>[(5,vS (bsO t))]) (fun _=>[]) (fun t=>pad7 t=sumS s∧t.length≤7) (fun t=>7-t.length) (Lib.itoa x) rfl ?_ (sb rfl rfl rfl) ?_)
  ·
    have hx:x=sumG 1 s:=by rw[hI0.2.2.2,List.drop_of_length_le (by omega)];rfl
    exact⟨by rw[hx];rfl,(itoa_len7 (n:=x) (by omega) (by omega)).2⟩
  intro t hI1
  refine E rfl (B.lenB (a:=t) rfl un9) (Cp rfl rfl (fun h2=>?_) (fun h2=>?_))
  ·refine E rfl (B.catB (a:=[48]) (b:=t) rfl rfl (by simp only[List.length_cons,List.length_nil];omega)) (pk rfl (L1 ([48]++t) ?_ ?_ (sb rfl rfl rfl)))
   · (exact⟨by rw[pad_step (by assumption)];exact hI1.1,by simp only[List.length_append,List.length_cons,List.length_nil];omega⟩)
   · (simp only[List.length_append,List.length_cons,List.length_nil];omega)
  ·exact Rt rfl (leaf (val0:=vS (bsO t)) (by kernel_rfl) (ls (by rw[←hI1.1,pad_end (by assumption)])))
end Go.Lens.Tm
end
section
namespace Go.Lens.Tm
open Go.Lens.Tb Go.Proofs
set_option linter.unusedSectionVars false
variable [Lz]
theorem first3c0 {a b c:Int} (h:firstF [a,b,c]=0):a=0∧b=0∧c=0:=by
 rw[firstI] at h
 split at h
 ·rename_i ha
  exact⟨ha,first2 h⟩
 ·rename_i ha;exact absurd h ha
theorem when_zero0 {b:Bool} {e:Int} (he:e≠0) (h:whenF b e=0):b=false:=by
 cases b
 ·rfl
 ·exact absurd h he
theorem frm_rng (k:List UInt8):0≤(frmK k).1∧(frmK k).1≤1∧0≤(frmK k).2.1∧(frmK k).2.1≤7:=by
 unfold frmK
 repeat' split
 all_goals decide
theorem frm_known {k:List UInt8} (h:(frmK k).2.2=true):k.length≤9∧(k=kTar∨k=kAct∨k=kObs∨k=kRun∨k=kCal∨k=kUnd):=by
 unfold frmK at h
 split at h
 ·rename_i e;subst e;exact⟨by decide,.inl rfl⟩
 split at h
 ·rename_i e;subst e;exact⟨by decide,.inr (.inl rfl)⟩
 split at h
 ·rename_i e;subst e;exact⟨by decide,.inr (.inr (.inl rfl))⟩
 split at h
 ·rename_i e;subst e;exact⟨by decide,.inr (.inr (.inr (.inl rfl)))⟩
 split at h
 ·rename_i e;subst e;exact⟨by decide,.inr (.inr (.inr (.inr (.inl rfl))))⟩
 split at h
 ·rename_i e;subst e;exact⟨by decide,.inr (.inr (.inr (.inr (.inr rfl))))⟩
 ·cases h
structure OkE (e:Ev):Prop where
 num:1≤e.1∧e.1≤1000
 kind:(frmK e.2.1).2.2=true
 klen:e.2.1.length≤9
 nlen:((e.2.2.1.length:Nat):Int)=(frmK e.2.1).1∧e.2.2.1.length≤1
 vlen:((e.2.2.2.1.length:Nat):Int)=(frmK e.2.1).2.1∧e.2.2.2.1.length≤7
 names:∀ w∈e.2.2.1,isNameF (bsO w)=true∧w.length≤24
 vals:∀ v∈e.2.2.2.1,0≤v∧v≤999999999
 text:txtB e=true
theorem okE_of {e:Ev} (h:chkE e=0):OkE e:=by
 rw[chk_f3] at h
 by_cases h0:f3 e=0
 ·rw[if_pos h0] at h
  obtain⟨n1,n2,n3⟩:=first3c0 h
  obtain⟨m1,m2,m3⟩:=first3c0 h0
  have k1:=with_rng m1
  have k2:=when_zero0 (by decide) m2
  have k3:=when_zero0 (by decide) m3
  simp only[Bool.not_eq_false'] at k2
  have k4:=(frm_known k2).1
  have k5:=frm_rng e.2.1
  unfold shpB at k3
  rw[Bool.or_eq_false_iff] at k3
  have k6:=of_decide_eq_false k3.1
  have k7:=of_decide_eq_false k3.2
  refine⟨k1,k2,k4,⟨by omega,by omega⟩,⟨by omega,by omega⟩,fun w hw=>?_,fun v hv=>?_,?_⟩
  ·unfold namE at n1
   split at n1
   ·rename_i ha
    have:=List.all_eq_true.1 ha w hw
    exact⟨this,(name24 this).2⟩
   ·cases n1
  ·unfold valE at n2
   split at n2
   ·rename_i ha
    have:=List.all_eq_true.1 ha v hv
    have hq:outF v 0 999999999=false:=bn_f (by simpa using this)
    exact with_rng (with_in hq)
   ·cases n2
  ·have:=when_zero0 (by decide) n3
   simpa using this
 ·rw[if_neg h0] at h;exact absurd h h0
theorem b_start (n k:List UInt8) (N:List (List UInt8)):(n++[32])++k=n++tlW (([k]:List (List UInt8))++N.take 0):=by simp[tlW]
theorem b_next {X w:List UInt8} {l:List (List UInt8)}:((X++tlW l)++[32])++w=X++tlW (l++[w]):=by rw[tlW_snoc];simp
section
variable {e:Ev} {u:List UInt8}
theorem bd_t (h:u=Lib.itoa e.1++tlW ((([e.2.1]:List (List UInt8))++e.2.2.1)++e.2.2.2.1.map Lib.itoa)) (h1:e.2.2.2.2≠[]):bodyE e=(u++[32])++e.2.2.2.2:=by
 rw[h,b_next,bodyE,wrdW,txtW,if_neg h1]
theorem bd_0 (h:u=Lib.itoa e.1++tlW ((([e.2.1]:List (List UInt8))++e.2.2.1)++e.2.2.2.1.map Lib.itoa)) (h1:e.2.2.2.2=[]):bodyE e=u:=by
 rw[h,bodyE,wrdW,txtW,if_pos h1,List.append_nil]
end
section
variable {e:Ev} {u:List (List UInt8)} {i:Nat}
theorem bj_t (h:u=(([Lib.itoa e.1,e.2.1]:List (List UInt8))++e.2.2.1)++e.2.2.2.1.map Lib.itoa) (h1:e.2.2.2.2≠[]):bsO (bodyE e)=bsO (joinF (u++[e.2.2.2.2])):=by
 rw[h,←body_join,wrdW,txtW,if_neg h1];simp
theorem bj_0 (h:u=(([Lib.itoa e.1,e.2.1]:List (List UInt8))++e.2.2.1)++e.2.2.2.1.map Lib.itoa) (h1:e.2.2.2.2=[]):bsO (bodyE e)=bsO (joinF u):=by
 rw[h,←body_join,wrdW,txtW,if_pos h1];simp
theorem bw_0 (h:u=(([Lib.itoa e.1,e.2.1]:List (List UInt8))++e.2.2.1)++(e.2.2.2.1.take i).map Lib.itoa) (ok:OkE e) (hi:i≤e.2.2.2.1.length):∀ w∈u,w.length≤1000000:=by
 rw[h]
 intro w hw
 rcases List.mem_append.1 hw with hw|hw
 ·rcases List.mem_append.1 hw with hw|hw
  ·simp only[List.mem_cons,List.not_mem_nil,or_false] at hw
   rcases hw with rfl|rfl
   ·have:=itoa_len (n:=e.1) (by have:=ok.num;omega) (by have:=ok.num;omega);omega
   ·have:=ok.klen;omega
  ·have:=(ok.names w hw).2;omega
 ·obtain⟨v,hv,rfl⟩:=List.mem_map.1 hw
  have hq:=ok.vals v (List.mem_of_mem_take hv)
  have:=itoa_len (n:=v) hq.1 hq.2;omega
theorem bw_t (h:u=(([Lib.itoa e.1,e.2.1]:List (List UInt8))++e.2.2.1)++(e.2.2.2.1.take i).map Lib.itoa) (ok:OkE e) (hl:e.2.2.2.2.length≤4000) (hi:i≤e.2.2.2.1.length):∀ w∈u++[e.2.2.2.2],w.length≤1000000:=by
 intro w hw
 rcases List.mem_append.1 hw with hw|hw
 ·exact bw_0 h ok hi w hw
 ·simp only[List.mem_cons,List.not_mem_nil,or_false] at hw
  rw[hw];omega
theorem body_len (ok:OkE e) (hl:e.2.2.2.2.length≤4000):(bodyE e).length≤40100:=by
 have h1:=itoa_len (n:=e.1) (by have:=ok.num;omega) (by have:=ok.num;omega)
 have h2:(wrdW e).length≤10:=by
  have:=ok.nlen.2;have:=ok.vlen.2
  unfold wrdW txtW
  split<;>simp only[List.length_append,List.length_cons,List.length_nil,List.length_map]<;>omega
 have h3:∀ w∈wrdW e,w.length≤4000:=by
  intro w hw
  unfold wrdW at hw
  rcases List.mem_append.1 hw with hw|hw
  ·rcases List.mem_append.1 hw with hw|hw
   ·rcases List.mem_append.1 hw with hw|hw
    ·simp only[List.mem_cons,List.not_mem_nil,or_false] at hw
     rw[hw];have:=ok.klen;omega
    ·have:=(ok.names w hw).2;omega
   ·obtain⟨v,hv,rfl⟩:=List.mem_map.1 hw
    have hq:=ok.vals v hv
    have:=itoa_len (n:=v) hq.1 hq.2;omega
  ·unfold txtW at hw
   split at hw
   ·cases hw
   ·simp only[List.mem_cons,List.not_mem_nil,or_false] at hw
    rw[hw];omega
 have h4:=tlW_len 4000 _ h3
 have h5:(wrdW e).length*(4000+1)≤10*(4000+1):=Nat.mul_le_mul_right _ h2
 unfold bodyE
 rw[List.length_append]
 omega
end
end Go.Lens.Tm
end
section
namespace Go.Lens.Tm
open Go.Lens.Tb Go.Proofs
variable [Lz]
set_option linter.unusedSectionVars false
set_option maxHeartbeats 4000000
set_option maxRecDepth 100000
attribute [local irreducible] TK PK T RG EfR Body CG
theorem w145 (e:Ev) (ok:OkE e) (hl:e.2.2.2.2.length≤4000):CallOk Tryz.prog 145 [.pv (.agg [pI e.1,pS (bsO e.2.1),pL eN e.2.2.1,pL eI e.2.2.2.1,pS (bsO e.2.2.2.2)])] (lookM []) (vS (bsO (bodyE e))) []:=by
 refine cG qf145 rfl (nB rfl) rfl ?_
 have ok0:=ok
 obtain⟨⟨on0,on1⟩,_,ok9,⟨_,onl⟩,⟨_,ovl⟩,onm,ovv,_⟩:=ok0
 have oil:=itoa_len (n:=e.1) (by omega) (by omega)
 refine C rfl (w131 e.1 (by omega) (by omega)) rfl rfl rfl (E rfl (B.catB (a:=(Lib.itoa e.1)) (b:=[32]) rfl rfl (by first|omega|(simp only[List.length_append,List.length_cons,List.length_nil];omega))) (E rfl (B.catB (a:=((Lib.itoa e.1)++[32])) (b:=e.2.1) rfl rfl (by first|omega|(simp only[List.length_append,List.length_cons,List.length_nil];omega))) (Dr rfl (by kernel_rfl) (l2 (fun (k:Nat) (t:List UInt8)=>[(1,.bref 2 0),(3,vS (bsO t)),(4,vI k)]) (fun _ _=>[(2,.box 119 [vI e.1,vS (bsO e.2.1),vL eN e.2.2.1,vL eI e.2.2.2.1,vS (bsO e.2.2.2.2)])]) (fun k t=>k≤e.2.2.1.length∧t=Lib.itoa e.1++tlW (([e.2.1]:List (List UInt8))++List.take k e.2.2.1)∧t.length≤30+40*k) (fun k _=>e.2.2.1.length-k) 0 ((Lib.itoa e.1++[32])++e.2.1) rfl ?_ (sb rfl rfl rfl) ?_))))
 · (exact⟨Nat.zero_le _,b_start _ _ _,by simp only[List.length_append,List.length_cons,List.length_nil];omega⟩)
 intro k t hI0
 refine E rfl (B.lenL rfl un73) (Cp rfl rfl (fun h1=>?_) (fun h1=>?_))
 ·have onk:=(onm _ (getD_mem (l:=e.2.2.1) (k:=k) (z:=[]) (by omega))).2
  refine E rfl (B.catB (a:=t) (b:=[32]) rfl rfl (by first|omega|(simp only[List.length_append,List.length_cons,List.length_nil];omega))) (E rfl (B.idx (z:=[]) (i:=k) rfl rfl un73 sz9 (fun _=>rfl) rfl (by omega)) (E rfl (B.catB (a:=(t++[32])) (b:=(List.getD e.2.2.1 k [])) rfl rfl (by first|omega|(simp only[List.length_append,List.length_cons,List.length_nil];omega))) (E rfl (B.add rfl rfl (by unfold R64;omega)) (pk rfl (L2 (k+1) ((t++[32])++(List.getD e.2.2.1 k [])) ?_ ?_ (sb rfl rfl rfl))))))
  · (refine⟨by omega,?_,by simp only[List.length_append,List.length_cons,List.length_nil];omega⟩;rw[hI0.2.1,b_next,List.append_assoc,←take_succ_at _ _ [] (by omega)])
  · omega
 ·refine l2 (fun (i:Nat) (u:List UInt8)=>[(1,.bref 2 0),(3,vS (bsO u)),(5,vI i)]) (fun _ _=>[(2,.box 119 [vI e.1,vS (bsO e.2.1),vL eN e.2.2.1,vL eI e.2.2.2.1,vS (bsO e.2.2.2.2)])]) (fun i u=>i≤e.2.2.2.1.length∧u=Lib.itoa e.1++tlW ((([e.2.1]:List (List UInt8))++e.2.2.1)++(List.take i e.2.2.2.1).map Lib.itoa)∧u.length≤80+40*i) (fun i _=>e.2.2.2.1.length-i) 0 t rfl ?_ (sb rfl rfl rfl) ?_
  · (exact⟨Nat.zero_le _,by rw[hI0.2.1,List.take_of_length_le (by omega)];simp,by omega⟩)
  intro i u hI1
  refine E rfl (B.lenL rfl un22) (Cp rfl rfl (fun h2=>?_) (fun h2=>?_))
  ·have ovi:=ovv _ (getD_mem (l:=e.2.2.2.1) (k:=i) (z:=0) (by omega))
   have oiv:=itoa_len (n:=List.getD e.2.2.2.1 i 0) (by omega) (by omega)
   refine E rfl (B.catB (a:=u) (b:=[32]) rfl rfl (by first|omega|(simp only[List.length_append,List.length_cons,List.length_nil];omega))) (E rfl (B.idx (z:=0) (i:=i) rfl rfl un22 sz3 (fun _=>rfl) rfl (by omega)) (C rfl (w131 (List.getD e.2.2.2.1 i 0) (by omega) (by omega)) rfl rfl rfl (E rfl (B.catB (a:=(u++[32])) (b:=(Lib.itoa (List.getD e.2.2.2.1 i 0))) rfl rfl (by first|omega|(simp only[List.length_append,List.length_cons,List.length_nil];omega))) (E rfl (B.add rfl rfl (by unfold R64;omega)) (pk rfl (L2 (i+1) ((u++[32])++(Lib.itoa (List.getD e.2.2.2.1 i 0))) ?_ ?_ (sb rfl rfl rfl)))))))
   · (refine⟨by omega,?_,by simp only[List.length_append,List.length_cons,List.length_nil];omega⟩;rw[hI1.2.1,b_next,List.append_assoc,take_succ_at e.2.2.2.1 i 0 (by omega),List.map_append];rfl)
   · omega
  ·refine E rfl (B.sneB (a:=e.2.2.2.2) (b:=[]) rfl rfl) (Cp rfl rfl (fun h3=>?_) (fun h3=>?_))
   ·refine E rfl (B.catB (a:=u) (b:=[32]) rfl rfl (by first|omega|(simp only[List.length_append,List.length_cons,List.length_nil];omega))) (E rfl (B.catB (a:=(u++[32])) (b:=e.2.2.2.2) rfl rfl (by first|omega|(simp only[List.length_append,List.length_cons,List.length_nil];omega))) ?_)
    exact Rt rfl (leaf (val0:=vS (bsO ((u++[32])++e.2.2.2.2))) (by kernel_rfl) (ls (by first
          | exact congrArg bsO (bd_t (e:=e) (u:=u) (by rw[hI1.2.1,List.take_of_length_le (by omega)]) (by assumption)).symm
          | exact congrArg bsO (bd_0 (e:=e) (u:=u) (by rw[hI1.2.1,List.take_of_length_le (by omega)]) (Decidable.not_not.1 (by assumption))).symm)))
   ·exact Rt rfl (leaf (val0:=vS (bsO u)) (by kernel_rfl) (ls (by first
          | exact congrArg bsO (bd_t (e:=e) (u:=u) (by rw[hI1.2.1,List.take_of_length_le (by omega)]) (by assumption)).symm
          | exact congrArg bsO (bd_0 (e:=e) (u:=u) (by rw[hI1.2.1,List.take_of_length_le (by omega)]) (Decidable.not_not.1 (by assumption))).symm)))
theorem w190 (hp:PowLaid) (hjw:JoinW) (e:Ev) (ok:OkE e) (hl:e.2.2.2.2.length≤4000):CallOk Tryz.prog 190 [.pv (.agg [pI e.1,pS (bsO e.2.1),pL eN e.2.2.1,pL eI e.2.2.2.1,pS (bsO e.2.2.2.2)])] (lookM []) (vS (bsO (bodyE e))) []:=by
 refine cG qf190 rfl (nB rfl) rfl ?_
 have ok0:=ok
 obtain⟨⟨on0,on1⟩,_,ok9,⟨_,onl⟩,⟨_,ovl⟩,onm,ovv,_⟩:=ok0
 have oil:=itoa_len (n:=e.1) (by omega) (by omega)
 refine C rfl (w185 hp e.1 (by unfold R64;omega)) rfl rfl rfl (E rfl (B.run rfl) (E rfl (B.append (enc:=eN) (l:=[(Lib.itoa e.1),e.2.1]) (r:=e.2.2.1) rfl rfl rfl un73 in9 rfl (fun _=>rfl) by9 (by first|omega|(simp only[List.length_append,List.length_cons,List.length_nil];omega))) (Dr rfl (by kernel_rfl) (E rfl (B.lenL rfl un22) (l3 (fun (i:Nat) (v:Nat) (out:List (List UInt8))=>[(1,.bref 2 0),(3,.aref 12 v),(16,vL eI e.2.2.2.1),(17,vI (e.2.2.2.1.length:Int)),(18,vI i)]) (fun _ v out=>[(2,.box 119 [vI e.1,vS (bsO e.2.1),vL eN e.2.2.1,vL eI e.2.2.2.1,vS (bsO e.2.2.2.2)]),(12,.arr v 1 9 (List.map eN out))]) (fun i _ out=>i≤e.2.2.2.1.length∧out=(([Lib.itoa e.1,e.2.1]:List (List UInt8))++e.2.2.1)++(List.take i e.2.2.2.1).map Lib.itoa∧out.length≤3+i) (fun i _ _=>e.2.2.2.1.length-i) 0 (0+1) ([(Lib.itoa e.1),e.2.1]++e.2.2.1) rfl ?_ (sb rfl rfl rfl) ?_)))))
 · (exact⟨Nat.zero_le _,by simp,by simp only[List.length_append,List.length_cons,List.length_nil];omega⟩)
 intro i v out hI0
 refine Cp rfl rfl (fun h1=>?_) (fun h1=>?_)
 ·have ovi:=ovv _ (getD_mem (l:=e.2.2.2.1) (k:=i) (z:=0) (by omega))
  refine E rfl (B.idx (z:=0) (i:=i) rfl rfl un22 sz3 (fun _=>rfl) rfl (by first|omega|(simp only[List.length_append,List.length_cons,List.length_nil];omega))) (C rfl (w185 hp (List.getD e.2.2.2.1 i 0) (by unfold R64;omega)) rfl rfl rfl (E rfl (B.runZ (val:=.pv (.slice (List.map eN [(Lib.itoa (List.getD e.2.2.2.1 i 0))]))) rfl (fun l=>Frz.arr l _ _ _ _ _) rfl) (E rfl (B.append (enc:=eN) (l:=out) (r:=[(Lib.itoa (List.getD e.2.2.2.1 i 0))]) rfl rfl rfl un73 in9 rfl (fun _=>rfl) by9 (by first|omega|(simp only[List.length_append,List.length_cons,List.length_nil];omega))) (E rfl (B.add rfl rfl (by unfold R64;omega)) (pk rfl (L3 (i+1) (v+1) (out++[(Lib.itoa (List.getD e.2.2.2.1 i 0))]) ?_ ?_ (sb rfl rfl rfl)))))))
  · (refine⟨by omega,?_,by simp only[List.length_append,List.length_cons,List.length_nil];omega⟩;rw[hI0.2.1,List.append_assoc,take_succ_at e.2.2.2.1 i 0 (by omega),List.map_append];rfl)
  · omega
 ·refine E rfl (B.sneB (a:=e.2.2.2.2) (b:=[]) rfl rfl) (Cp rfl rfl (fun h2=>?_) (fun h2=>?_))
  ·refine E rfl (B.runZ (val:=.pv (.slice (List.map eN [e.2.2.2.2]))) rfl (fun l=>Frz.arr l _ _ _ _ _) rfl) (E rfl (B.append (enc:=eN) (l:=out) (r:=[e.2.2.2.2]) rfl rfl rfl un73 in9 rfl (fun _=>rfl) by9 (by first|omega|(simp only[List.length_append,List.length_cons,List.length_nil];omega))) ?_)
   have hj1:List.length (out++[e.2.2.2.2])≤1000:=(by first|omega|(simp only[List.length_append,List.length_cons,List.length_nil];omega))
   have hj2:∀ w∈(out++[e.2.2.2.2]),w.length≤1000000:=by
     first
      | exact bw_t hI0.2.1 ok hl (by omega)
      | exact bw_0 hI0.2.1 ok (by omega)
   refine Fz 9 3 rfl rfl rfl (C rfl (hjw (out++[e.2.2.2.2]) hj1 hj2) rfl rfl rfl ?_)
   exact Rt rfl (leaf (val0:=vS (bsO (joinF (out++[e.2.2.2.2])))) (by kernel_rfl) (ls (by first
          | exact (bj_t (e:=e) (u:=out) (by rw[hI0.2.1,List.take_of_length_le (by omega)]) (by assumption)).symm
          | exact (bj_0 (e:=e) (u:=out) (by rw[hI0.2.1,List.take_of_length_le (by omega)]) (Decidable.not_not.1 (by assumption))).symm)))
  ·have hj1:out.length≤1000:=(by first|omega|(simp only[List.length_append,List.length_cons,List.length_nil];omega))
   have hj2:∀ w∈out,w.length≤1000000:=by
     first
      | exact bw_t hI0.2.1 ok hl (by omega)
      | exact bw_0 hI0.2.1 ok (by omega)
   refine Fz 9 3 rfl rfl rfl (C rfl (hjw out hj1 hj2) rfl rfl rfl ?_)
   exact Rt rfl (leaf (val0:=vS (bsO (joinF out))) (by kernel_rfl) (ls (by first
          | exact (bj_t (e:=e) (u:=out) (by rw[hI0.2.1,List.take_of_length_le (by omega)]) (by assumption)).symm
          | exact (bj_0 (e:=e) (u:=out) (by rw[hI0.2.1,List.take_of_length_le (by omega)]) (Decidable.not_not.1 (by assumption))).symm)))
theorem w141 (hp:PowLaid) (hm:OrcOk Tryz.prog (mergeO 121)) (hjw:JoinW) (e:Ev) (ok:OkE e) (hl:e.2.2.2.2.length≤4000):CallOk Tryz.prog 141 [.pv (.agg [pI e.1,pS (bsO e.2.1),pL eN e.2.2.1,pL eI e.2.2.2.1,pS (bsO e.2.2.2.2)])] (lookM []) (vS (bsO (recE e))) []:=by
 refine cG qf141 rfl (nB rfl) rfl ?_
 have hbl:=body_len ok hl
 have hsl:=sumS_len (bodyE e)
 exact C rfl (w190 hp hjw e ok (by omega)) rfl rfl rfl (E rfl (B.catB (a:=(bodyE e)) (b:=[35]) rfl rfl (by first|omega|(simp only[List.length_append,List.length_cons,List.length_nil];omega))) (C rfl (w191 hp hm (bodyE e) (by omega)) rfl rfl rfl (E rfl (B.catB (a:=((bodyE e)++[35])) (b:=(sumS (bodyE e))) rfl rfl (by first|omega|(simp only[List.length_append,List.length_cons,List.length_nil];omega))) (E rfl (B.catB (a:=(((bodyE e)++[35])++(sumS (bodyE e)))) (b:=[10]) rfl rfl (by first|omega|(simp only[List.length_append,List.length_cons,List.length_nil];omega))) (Rt rfl (leaf (val0:=vS (bsO ((((bodyE e)++[35])++(sumS (bodyE e)))++[10]))) (by kernel_rfl) (ls (by rfl))))))))
end Go.Lens.Tm
end
section
namespace Go.Lens.Tm
open Go.Lens.Tb Go.Proofs
set_option linter.unusedSectionVars false
variable [Lz]
def digI (c:Int):Bool:=!(decide (c<48)||decide (57<c))
def digB (s:List UInt8):Bool:=s.all (fun b=>digI ((b.toNat:Nat):Int))&&decide ((s.length:Int)=7)
theorem digB_no {s:List UInt8} {k:Nat} (hk:k<s.length) (h:(bif (decide (byteAt (bsO s) k<48)) then true else (decide (57<byteAt (bsO s) k)))=true):digB s=false:=by
 rw[bif_or] at h
 unfold digB
 rw[Bool.and_eq_false_iff]
 refine .inl ?_
 rw[List.all_eq_false]
 refine⟨s.getD k 0,getD_mem (z:=0) hk,?_⟩
 have e:byteAt (bsO s) k=(((s.getD k 0).toNat:Nat):Int):=rfl
 rw[←e,digI,h];simp
theorem digB_yes {s:List UInt8} (h:∀ j,j<s.length→(bif (decide (byteAt (bsO s) j<48)) then true else (decide (57<byteAt (bsO s) j)))=false):digB s=decide ((s.length:Int)=7):=by
 unfold digB
 have:s.all (fun b=>digI ((b.toNat:Nat):Int))=true:=by
  rw[List.all_eq_true]
  intro b hb
  obtain⟨j,hj,rfl⟩:=List.getElem_of_mem hb
  have:=h j hj
  rw[bif_or] at this
  have e:byteAt (bsO s) j=((s[j].toNat:Nat):Int):=by
   show (((s.getD j 0).toNat:Nat):Int)=_
   rw[List.getD_eq_getElem?_getD,List.getElem?_eq_getElem hj];rfl
  rw[e] at this
  rw[digI,this];rfl
 rw[this,Bool.true_and]
theorem log_next {l:List Ev} {k:Nat} (hk:k<l.length):logE (l.take (k+1))=logE (l.take k)++recE (l.getD k zV):=by
 rw[take_succ_at l k zV hk,logE,List.flatMap_append]
 simp[logE]
theorem rec_len {e:Ev} (ok:OkE e) (hl:e.2.2.2.2.length≤4000):(recE e).length≤40200:=by
 have h1:=body_len ok hl
 have h2:=sumS_len (bodyE e)
 unfold recE
 simp only[List.length_append,List.length_cons,List.length_nil]
 omega
theorem ev_eq {x y:Ev} (h:(bif (bif (bif (bif (decide (x.1≠y.1)) then true else (decide (x.2.1≠y.2.1))) then true else (!(decide (x.2.2.1=y.2.2.1)))) then true else (!(decide (x.2.2.2.1=y.2.2.2.1)))) then true else (decide (x.2.2.2.2≠y.2.2.2.2)))=false):x=y:=by
 simp only[bif_or,Bool.or_eq_false_iff,decide_eq_false_iff_not,Bool.not_eq_false',decide_eq_true_eq] at h
 obtain⟨⟨⟨⟨h1,h2⟩,h3⟩,h4⟩,h5⟩:=h
 exact Prod.ext (Decidable.not_not.1 h1) (Prod.ext (Decidable.not_not.1 h2) (Prod.ext h3 (Prod.ext h4 (Decidable.not_not.1 h5))))
theorem ev_ne {x y:Ev} (h:(bif (bif (bif (bif (decide (x.1≠y.1)) then true else (decide (x.2.1≠y.2.1))) then true else (!(decide (x.2.2.1=y.2.2.1)))) then true else (!(decide (x.2.2.2.1=y.2.2.2.1)))) then true else (decide (x.2.2.2.2≠y.2.2.2.2)))=true):¬x=y:=by
 rintro rfl
 simp at h
end Go.Lens.Tm
end
section
namespace Go.Lens.Tm
open Go.Lens.Tb Go.Proofs
variable [Lz]
set_option linter.unusedSectionVars false
set_option maxHeartbeats 4000000
set_option maxRecDepth 100000
attribute [local irreducible] TK PK T RG EfR Body CG
theorem un121:tab.underlying 121=some (.slice 119):=by kernel_rfl
theorem w194 (s:List UInt8) (hl:s.length≤1000000000):CallOk Tryz.prog 194 [vS (bsO s)] (lookM []) (vB (digB s)) []:=by
 refine cG qf194 rfl (nB rfl) rfl (l1 (fun (k:Nat)=>[(0,vS (bsO s)),(3,vI k)]) (fun _=>[]) (fun k=>k≤s.length∧∀ j,j<k→(bif (decide (byteAt (bsO s) j<48)) then true else (decide (57<byteAt (bsO s) j)))=false) (fun k=>s.length-k) 0 rfl ?_ (sb rfl rfl rfl) ?_)
 · exact⟨Nat.zero_le _,fun j hj=>by omega⟩
 intro k hI0
 refine E rfl (B.lenB (a:=s) rfl un9) (Cp rfl rfl (fun h1=>?_) (fun h1=>?_))
 ·refine E rfl (B.sidx (i:=k) rfl rfl un9 rfl (show k<s.length from (by omega))) (Eg rfl rfl (fun hc=>B.move rfl) rfl (Eg rfl rfl (fun hc=>B.move rfl) rfl (Eg rfl rfl (fun hc=>B.sidx (i:=k) (ev1_gd rfl hc) (ev1_gd rfl hc) un9 rfl (show k<s.length from (by omega))) rfl (Eg rfl rfl (fun hc=>B.gtr (ev1_gd rfl hc) rfl) rfl (E rfl (B.pick rfl rfl rfl rfl (gdB rfl) (pick_or _)) (Cb rfl rfl (fun h2=>?_) (fun h2=>?_)))))))
  ·exact Rt rfl (leaf (val0:=vB false) (by kernel_rfl) (lb (by first|exact (digB_no (k:=k) (by omega) (by assumption)).symm|exact (digB_yes fun j hj=>hI0.2 j (by omega)).symm)))
  ·refine E rfl (B.add rfl rfl (by unfold R64;omega)) (pk rfl (L1 (k+1) ?_ ?_ (sb rfl rfl rfl)))
   · (refine⟨by omega,fun j hj=>?_⟩;rcases Nat.lt_succ_iff_lt_or_eq.1 hj with h|h;exact hI0.2 j h;subst h;assumption)
   · omega
 ·exact E rfl (B.lenB (a:=s) rfl un9) (Rt rfl (leaf (val0:=vB (decide ((s.length:Int)=7))) (by kernel_rfl) (lb (by first|exact (digB_no (k:=k) (by omega) (by assumption)).symm|exact (digB_yes fun j hj=>hI0.2 j (by omega)).symm))))
theorem w70 (l:List Ev) (hok:∀ e∈l,OkE e) (hlt:∀ e∈l,e.2.2.2.2.length≤4000) (hl:l.length≤100000):CallOk Tryz.prog 70 [vL eE l] (lookM []) (vS (bsO (logE l))) []:=by
 refine cG qf70 rfl (nB rfl) rfl (l2 (fun (k:Nat) (t:List UInt8)=>[(0,vL eE l),(3,vS (bsO t)),(4,vI k)]) (fun _ _=>[]) (fun k t=>k≤l.length∧t=logE (List.take k l)∧t.length≤50000*k) (fun k _=>l.length-k) 0 [] rfl ?_ (sb rfl rfl rfl) ?_)
 · exact⟨Nat.zero_le _,rfl,by simp⟩
 intro k t hI0
 refine E rfl (B.lenL rfl un121) (Cp rfl rfl (fun h1=>?_) (fun h1=>?_))
 ·have hbl:=body_len (hok _ (getD_mem (l:=l) (z:=zV) (k:=k) (by omega))) (hlt _ (getD_mem (l:=l) (z:=zV) (k:=k) (by omega)))
  have hsl:=sumS_len (bodyE (List.getD l k zV))
  refine E rfl (B.idx (z:=zV) (i:=k) rfl rfl un121 sz119 (fun _=>rfl) rfl (by omega)) (C rfl (w145 (List.getD l k zV) (hok _ (getD_mem (z:=zV) (k:=k) (by omega))) (hlt _ (getD_mem (z:=zV) (k:=k) (by omega)))) rfl rfl rfl (E rfl (B.catB (a:=t) (b:=(bodyE (List.getD l k zV))) rfl rfl (by first|omega|(simp only[List.length_append,List.length_cons,List.length_nil];omega))) (E rfl (B.catB (a:=(t++(bodyE (List.getD l k zV)))) (b:=[35]) rfl rfl (by first|omega|(simp only[List.length_append,List.length_cons,List.length_nil];omega))) (E rfl (B.idx (z:=zV) (i:=k) rfl rfl un121 sz119 (fun _=>rfl) rfl (by omega)) (C rfl (w145 (List.getD l k zV) (hok _ (getD_mem (z:=zV) (k:=k) (by omega))) (hlt _ (getD_mem (z:=zV) (k:=k) (by omega)))) rfl rfl rfl (C rfl (w92 (bodyE (List.getD l k zV)) (by omega)) rfl rfl rfl (E rfl (B.catB (a:=((t++(bodyE (List.getD l k zV)))++[35])) (b:=(sumS (bodyE (List.getD l k zV)))) rfl rfl (by first|omega|(simp only[List.length_append,List.length_cons,List.length_nil];omega))) (E rfl (B.catB (a:=(((t++(bodyE (List.getD l k zV)))++[35])++(sumS (bodyE (List.getD l k zV))))) (b:=[10]) rfl rfl (by first|omega|(simp only[List.length_append,List.length_cons,List.length_nil];omega))) (Dr rfl (by kernel_rfl) (E rfl (B.add rfl rfl (by unfold R64;omega)) (pk rfl (L2 (k+1) ((((t++(bodyE (List.getD l k zV)))++[35])++(sumS (bodyE (List.getD l k zV))))++[10]) ?_ ?_ (sb rfl rfl rfl)))))))))))))
  · (refine⟨by omega,?_,by simp only[List.length_append,List.length_cons,List.length_nil];omega⟩;rw[log_next (by omega),hI0.2.1,recE];simp only[List.append_assoc])
  · omega
 ·exact Rt rfl (leaf (val0:=vS (bsO t)) (by kernel_rfl) (ls (by rw[hI0.2.1,List.take_of_length_le (by omega)])))
theorem w71 (a b:List Ev) (hl:a.length≤1000000000000000) (hna:∀ e∈a,e.2.2.1.length≤1000000000000000) (hva:∀ e∈a,e.2.2.2.1.length≤1000000000000000):CallOk Tryz.prog 71 [vL eE a,vL eE b] (lookM []) (vB (decide (a=b))) []:=by
 refine cG qf71 rfl (nB rfl) rfl (E rfl (B.lenL rfl un121) (E rfl (B.lenL rfl un121) (Cp rfl rfl (fun h1=>?_) (fun h1=>?_))))
 ·exact Rt rfl (leaf (val0:=vB false) (by kernel_rfl) (lb (by first
          | exact (decide_eq_false fun e=>by subst e;omega).symm
          | exact (decide_eq_false fun e=>by subst e;exact ev_ne (by assumption) rfl).symm
          | exact (decide_eq_true (eq_getD zV hI0.2.1 fun j hj=>hI0.2.2 j (by omega))).symm)))
 ·refine l1 (fun (k:Nat)=>[(0,vL eE a),(1,vL eE b),(5,vI k)]) (fun _=>[]) (fun k=>k≤a.length∧a.length=b.length∧∀ j,j<k→List.getD a j zV=List.getD b j zV) (fun k=>a.length-k) 0 rfl ?_ (sb rfl rfl rfl) ?_
  · exact⟨Nat.zero_le _,by omega,fun j hj=>by omega⟩
  intro k hI0
  refine E rfl (B.lenL rfl un121) (Cp rfl rfl (fun h2=>?_) (fun h2=>?_))
  ·refine E rfl (B.idx (z:=zV) (i:=k) rfl rfl un121 sz119 (fun _=>rfl) rfl (by omega)) (E rfl (B.idx (z:=zV) (i:=k) rfl rfl un121 sz119 (fun _=>rfl) rfl (by omega)) (Eg rfl rfl (fun hc=>B.move rfl) rfl (Eg rfl rfl (fun hc=>B.move rfl) rfl (Eg rfl rfl (fun hc=>B.idx (z:=zV) (i:=k) (ev1_gd rfl hc) (ev1_gd rfl hc) un121 sz119 (fun _=>rfl) rfl (by omega)) rfl (Eg rfl rfl (fun hc=>B.fadP (ev1_gd rfl hc) fa119_1 rfl) rfl (Eg rfl rfl (fun hc=>B.loadP (ev1_gd rfl hc) ag9 sz9) rfl (Eg rfl rfl (fun hc=>B.move rfl) rfl (Eg rfl rfl (fun hc=>B.move rfl) rfl (Eg rfl rfl (fun hc=>B.idx (z:=zV) (i:=k) (ev1_gd rfl hc) (ev1_gd rfl hc) un121 sz119 (fun _=>rfl) rfl (by omega)) rfl (Eg rfl rfl (fun hc=>B.fadP (ev1_gd rfl hc) fa119_1 rfl) rfl (Eg rfl rfl (fun hc=>B.loadP (ev1_gd rfl hc) ag9 sz9) rfl (Eg rfl rfl (fun hc=>B.sneB (a:=(List.getD a k zV).2.1) (b:=(List.getD b k zV).2.1) (ev1_gd rfl hc) (ev1_gd rfl hc)) rfl (E rfl (B.pick rfl rfl rfl rfl (gdB rfl) (pick_or _)) ?_)))))))))))))
   refine Eg rfl rfl (fun hc=>B.move rfl) rfl (Eg rfl rfl (fun hc=>B.move rfl) rfl (Eg rfl rfl (fun hc=>B.idx (z:=zV) (i:=k) (ev1_gd rfl hc) (ev1_gd rfl hc) un121 sz119 (fun _=>rfl) rfl (by omega)) rfl (Eg rfl rfl (fun hc=>B.fadP (ev1_gd rfl hc) fa119_2 rfl) rfl (Eg rfl rfl (fun hc=>B.loadP (ev1_gd rfl hc) ag73 sz73) rfl (Eg rfl rfl (fun hc=>B.move rfl) rfl (Eg rfl rfl (fun hc=>B.move rfl) rfl (Eg rfl rfl (fun hc=>B.idx (z:=zV) (i:=k) (ev1_gd rfl hc) (ev1_gd rfl hc) un121 sz119 (fun _=>rfl) rfl (by omega)) rfl (Eg rfl rfl (fun hc=>B.fadP (ev1_gd rfl hc) fa119_2 rfl) rfl (Eg rfl rfl (fun hc=>B.loadP (ev1_gd rfl hc) ag73 sz73) rfl (Eg rfl rfl (fun hc=>B.call (w45 (List.getD a k zV).2.2.1 (List.getD b k zV).2.2.1 (hna _ (getD_mem (z:=zV) (k:=k) (by omega)))) rfl (ds2 (ev1_gd rfl hc) (ev1_gd rfl hc)) rfl) rfl (Eg rfl rfl (fun hc=>B.not (ev1_gd rfl hc)) rfl (E rfl (B.pick rfl rfl rfl rfl (gdB rfl) (pick_or _)) (Eg rfl rfl (fun hc=>B.move rfl) rfl ?_)))))))))))))
   refine Eg rfl rfl (fun hc=>B.move rfl) rfl (Eg rfl rfl (fun hc=>B.idx (z:=zV) (i:=k) (ev1_gd rfl hc) (ev1_gd rfl hc) un121 sz119 (fun _=>rfl) rfl (by omega)) rfl (Eg rfl rfl (fun hc=>B.fadP (ev1_gd rfl hc) fa119_3 rfl) rfl (Eg rfl rfl (fun hc=>B.loadP (ev1_gd rfl hc) ag22 sz22) rfl (Eg rfl rfl (fun hc=>B.move rfl) rfl (Eg rfl rfl (fun hc=>B.move rfl) rfl (Eg rfl rfl (fun hc=>B.idx (z:=zV) (i:=k) (ev1_gd rfl hc) (ev1_gd rfl hc) un121 sz119 (fun _=>rfl) rfl (by omega)) rfl (Eg rfl rfl (fun hc=>B.fadP (ev1_gd rfl hc) fa119_3 rfl) rfl (Eg rfl rfl (fun hc=>B.loadP (ev1_gd rfl hc) ag22 sz22) rfl (Eg rfl rfl (fun hc=>B.call (w29 (List.getD a k zV).2.2.2.1 (List.getD b k zV).2.2.2.1 (hva _ (getD_mem (z:=zV) (k:=k) (by omega)))) rfl (ds2 (ev1_gd rfl hc) (ev1_gd rfl hc)) rfl) rfl (Eg rfl rfl (fun hc=>B.not (ev1_gd rfl hc)) rfl (E rfl (B.pick rfl rfl rfl rfl (gdB rfl) (pick_or _)) (Eg rfl rfl (fun hc=>B.move rfl) rfl (Eg rfl rfl (fun hc=>B.move rfl) rfl ?_)))))))))))))
   refine Eg rfl rfl (fun hc=>B.idx (z:=zV) (i:=k) (ev1_gd rfl hc) (ev1_gd rfl hc) un121 sz119 (fun _=>rfl) rfl (by omega)) rfl (Eg rfl rfl (fun hc=>B.fadP (ev1_gd rfl hc) fa119_4 rfl) rfl (Eg rfl rfl (fun hc=>B.loadP (ev1_gd rfl hc) ag9 sz9) rfl (Eg rfl rfl (fun hc=>B.move rfl) rfl (Eg rfl rfl (fun hc=>B.move rfl) rfl (Eg rfl rfl (fun hc=>B.idx (z:=zV) (i:=k) (ev1_gd rfl hc) (ev1_gd rfl hc) un121 sz119 (fun _=>rfl) rfl (by omega)) rfl (Eg rfl rfl (fun hc=>B.fadP (ev1_gd rfl hc) fa119_4 rfl) rfl (Eg rfl rfl (fun hc=>B.loadP (ev1_gd rfl hc) ag9 sz9) rfl (Eg rfl rfl (fun hc=>B.sneB (a:=(List.getD a k zV).2.2.2.2) (b:=(List.getD b k zV).2.2.2.2) (ev1_gd rfl hc) (ev1_gd rfl hc)) rfl (E rfl (B.pick rfl rfl rfl rfl (gdB rfl) (pick_or _)) (Dr rfl (by kernel_rfl) (Cb rfl rfl (fun h3=>?_) (fun h3=>?_))))))))))))
   ·exact Rt rfl (leaf (val0:=vB false) (by kernel_rfl) (lb (by first
          | exact (decide_eq_false fun e=>by subst e;omega).symm
          | exact (decide_eq_false fun e=>by subst e;exact ev_ne (by assumption) rfl).symm
          | exact (decide_eq_true (eq_getD zV hI0.2.1 fun j hj=>hI0.2.2 j (by omega))).symm)))
   ·refine E rfl (B.add rfl rfl (by unfold R64;omega)) (pk rfl (L1 (k+1) ?_ ?_ (sb rfl rfl rfl)))
    · (refine⟨by omega,hI0.2.1,fun j hj=>?_⟩;rcases Nat.lt_succ_iff_lt_or_eq.1 hj with h|h;exact hI0.2.2 j h;subst h;exact ev_eq (by assumption))
    · omega
  ·exact Rt rfl (leaf (val0:=vB true) (by kernel_rfl) (lb (by first
          | exact (decide_eq_false fun e=>by subst e;omega).symm
          | exact (decide_eq_false fun e=>by subst e;exact ev_ne (by assumption) rfl).symm
          | exact (decide_eq_true (eq_getD zV hI0.2.1 fun j hj=>hI0.2.2 j (by omega))).symm)))
end Go.Lens.Tm
end
section
namespace Go.Lens
set_option linter.unusedSectionVars false
variable [Lz]
theorem relDVs_at {G1 G2:Gh} {R:Rd} {h2:Nat} (hq:∀ v,RelDV G1 R .nils v→RelDV G2 R (.aref h2 0) v):∀ {ds:List DV} {c:Nat} {vs:List Value},ds[c]? =some .nils→(∀ k∈DV.refsL ds,G1.keeps G2 k)→RelDVs G1 R ds vs→RelDVs G2 R (ds.set c (.aref h2 0)) vs
 | [],c,vs,hc,_,_=>by simp at hc
 | d::ds,0,vs,hc,hk,H=>by
  have e:d=.nils:=by simpa using hc
  subst e
  simp only[RelDVs,List.set_cons_zero] at H ⊢
  obtain⟨v,vs',rfl,k1,k2⟩:=H
  exact⟨v,vs',rfl,hq v k1,RelDVs.mono (Rd.Le.rfl R) ds vs' (fun k hk2=>hk k (by simp only[DV.refsL,List.mem_append];exact .inr hk2)) k2⟩
 | d::ds,c+1,vs,hc,hk,H=>by
  simp only[RelDVs,List.set_cons_succ] at H ⊢
  obtain⟨v,vs',rfl,k1,k2⟩:=H
  exact⟨v,vs',rfl,RelDV.mono (Rd.Le.rfl R) d v (fun k hk2=>hk k (by simp only[DV.refsL,List.mem_append];exact .inl hk2)) k1,relDVs_at hq (by simpa using hc) (fun k hk2=>hk k (by simp only[DV.refsL,List.mem_append];exact .inr hk2)) k2⟩
theorem wk_adoptC {nb:Nat} {s:St} {h c h2 sz:Nat} {T0 T:TypeId} {ds:List DV} (hm:lookM s.ms h=some (.box T0 ds)) (hc:ds[c]? =some .nils) (hf:lookM s.ms h2=none) :
  Wk nb s ⟨s.tm,(h,.box T0 (ds.set c (.aref h2 0)))::(h2,.arr 0 sz T [])::s.ms⟩:=by
 intro G a w I
 have M:=I.mem
 have hb:=M.ms _ _ hm
 have hne:h≠h2:=by rintro rfl;rw[hf] at hm;cases hm
 have L:=Later.refl G w
 have hkeep:∀ k o,lookM s.ms k=some o→(G.turn h2 ⟨none,0,0,sz,0,0,true⟩).ρ k=G.ρ k:=by
  intro k o hk
  have:k≠h2:=by rintro rfl;rw[hf] at hk;cases hk
  simp only[Gh.turn,this,if_false]
 have hrefs:∀ k∈DV.refsL ds,∃ o,lookM s.ms k=some o:=fun k hk=>M.refsM h _ k hm hk
 have S1:Stepped G w (lookM s.ms) .dead [(h,.box T0 (ds.set c (.aref h2 0))),(h2,.arr 0 sz T [])] (G.turn h2 ⟨none,0,0,sz,0,0,true⟩) w undef:=by
  refine⟨⟨L.base,L.R0,L.R0c,L.R0m,L.os,L.tape,L.output,L.size,L.cold⟩,by simp only[RelDV],?_,?_,?_,M.fresh,fun _ _ hb=>.inr hb,fun k hk=>by simp[DV.refs] at hk,?_,fun _ _ hb=>.inl hb,fun _ _ _ _ h=>.inl h,fun _ _ _ h=>.inl h⟩
  ·intro k o hk
   simp only[List.mem_cons,Prod.mk.injEq,List.not_mem_nil,or_false] at hk
   rcases hk with ⟨rfl,rfl⟩|⟨rfl,rfl⟩
   ·simp only[RelMO] at hb ⊢
    obtain⟨e1,b,c1,e2,e3,e4,e5,e6⟩:=hb
    have er:=hkeep k _ hm
    refine⟨by rw[er];exact e1,b,c1,by rw[er];exact e2,e3,e4,e5,?_⟩
    exact relDVs_at (G1:=G) (fun v hv=>by
     simp only[RelDV] at hv
     simp only[RelDV,Gh.turn,if_true]
     exact⟨Nat.le_refl _,fun _=>hv⟩) hc (fun k2 hk2=>by
     obtain⟨o,ho⟩:=hrefs k2 hk2
     exact .inl (hkeep k2 o ho)) e6
   ·simp only[RelMO,Gh.turn,if_true]
    exact⟨trivial,trivial,trivial,rfl,Nat.le_refl _,(by simp),.inl ⟨trivial,trivial⟩⟩
  ·intro k o hk
   exact .inl (hkeep k o hk)
  ·intro k hk
   simp only[List.map_cons,List.map_nil,List.mem_cons,List.not_mem_nil,or_false,not_or] at hk
   simp only[Gh.turn,hk.2,if_false]
   exact⟨trivial,fun b hb=>⟨hb,trivial⟩⟩
  ·intro k o hk k2 hh
   simp only[List.mem_cons,Prod.mk.injEq,List.not_mem_nil,or_false] at hk
   rcases hk with ⟨rfl,rfl⟩|⟨rfl,rfl⟩
   ·simp only[MO.refs] at hh
    obtain⟨d,hd,hkd⟩:=refsL_mem.1 hh
    rcases List.mem_or_eq_of_mem_set hd with hd|rfl
    ·exact .inr (hrefs k2 (refsL_mem.2 ⟨d,hd,hkd⟩))
    ·simp only[DV.refs,List.mem_singleton] at hkd
     subst hkd
     exact .inl (by simp)
   ·simp[MO.refs] at hh
 obtain⟨I1,Sn1⟩:=I.eff (K:=nb) S1 none (by simp)
 exact⟨_,I1,Sn1⟩
theorem TK.adoptC {P:Program} {n nb:Nat} {Q:Exit→St→Prop} {K:List Fr} {x:Code} {s:St} {T0:TypeId} {ds ds2:List DV} (h c h2 sz:Nat) (T1:TypeId) (hm:lookM s.ms h=some (.box T0 ds)) (hc:ds[c]? =some .nils) (hf:lookM s.ms h2=none)
  (hd:ds.set c (.aref h2 0)=ds2) (k:TK P n nb Q x K ⟨s.tm,(h,.box T0 ds2)::(h2,.arr 0 sz T1 [])::s.ms⟩):TK P n nb Q x K s:=by
 subst hd
 exact T.weak (wk_adoptC hm hc hf) k
end Go.Lens
end
section
namespace Go.Lens.Tm
open Go.Lens.Tb Go.Proofs
set_option linter.unusedSectionVars false
variable [Lz]
def splN (c:UInt8):Nat→List UInt8→List (List UInt8)
 | 0,s=>[s]
 | n+1,s=>if Lib.indexByte s c<0 then [s] else s.take (Lib.indexByte s c).toNat::splN c n (s.drop ((Lib.indexByte s c).toNat+1))
theorem splN_no {c:UInt8} {s:List UInt8} (n:Nat) (h:Lib.indexByte s c<0):splN c n s=[s]:=by
 cases n with
 | zero=>rfl
 | succ n=>rw[splN,if_pos h]
theorem splN_at {c:UInt8} {s:List UInt8} {n m:Nat} (h:Lib.indexByte s c=(m:Int)):splN c (n+1) s=s.take m::splN c n (s.drop (m+1)):=by
 rw[splN,if_neg (by omega),h,Int.toNat_natCast]
theorem splN_big (c:UInt8):∀ (k:Nat) (s:List UInt8) (n:Nat),s.length≤k→s.length≤n→splN c n s=splN c s.length s
 | 0,s,n,hk,hn=>by
  have e:s=[]:=List.eq_nil_of_length_eq_zero (by omega)
  subst e
  cases n with
  | zero=>rfl
  | succ n=>
   have:Lib.indexByte [] c<0:=by
    show Lib.indexByte [] c<0
    simp[Lib.indexByte]
   rw[splN_no _ this,splN_no _ this]
 | k+1,s,n,hk,hn=>by
  by_cases h:Lib.indexByte s c<0
  ·rw[splN_no _ h,splN_no _ h]
  ·obtain⟨m,hm⟩:∃ m:Nat,Lib.indexByte s c=(m:Int):=⟨(Lib.indexByte s c).toNat,by omega⟩
   cases n with
   | zero=>
    have e:s.length=0:=by omega
    rw[e]
   | succ n=>
    cases hs:s.length with
    | zero=>
     have e:s=[]:=List.eq_nil_of_length_eq_zero hs
     subst e
     exact (splN_big c 0 [] (n+1) (by simp) (by simp)).trans rfl
    | succ j=>
     rw[splN_at hm,splN_at hm]
     have hd:(s.drop (m+1)).length≤j:=by rw[List.length_drop];omega
     rw[splN_big c k _ n (by rw[List.length_drop];omega) (by rw[List.length_drop];omega),splN_big c k _ j (by rw[List.length_drop];omega) hd]
theorem splN_min {c:UInt8} {s:List UInt8} {n n2:Nat} (h1:1≤n) (h2:n2=min n (s.length+1)):splN c (n2-1) s=splN c (n-1) s:=by
 by_cases h:n≤s.length+1
 ·rw[h2,Nat.min_eq_left h]
 ·rw[h2,Nat.min_eq_right (by omega),Nat.add_sub_cancel,splN_big c s.length s (n-1) (Nat.le_refl _) (by omega)]
def GsN (c:UInt8) (s:List UInt8) (n2 i:Nat) (a:List (List UInt8)) (q:List UInt8):Prop:=a.length=n2∧q.length≤s.length∧i+1≤n2∧splN c (n2-1) s=a.take i++splN c (n2-1-i) q
theorem gsn_step {c:UInt8} {s q:List UInt8} {n2 i m:Nat} {a:List (List UInt8)} (h:GsN c s n2 i a q) (hi:((i:Nat):Int)<((n2:Nat):Int)-1) (e:Lib.indexByte q c=(m:Int)):GsN c s n2 (i+1) (a.set i (q.take m)) (q.drop (m+1)):=by
 obtain⟨h1,h2,h3,h4⟩:=h
 refine⟨by rw[List.length_set];exact h1,by rw[List.length_drop];omega,by omega,?_⟩
 rw[h4,show n2-1-i=(n2-1-(i+1))+1 by omega,splN_at e]
 have ht:(a.set i (q.take m)).take (i+1)=a.take i++[q.take m]:=by
  rw[take_succ_at _ i [] (by rw[List.length_set];omega),List.take_set_of_le (Nat.le_refl _)]
  congr 1
  rw[List.getD_eq_getElem?_getD,List.getElem?_set_self (by omega)];rfl
 rw[ht];simp
theorem gsn_end {c:UInt8} {s q:List UInt8} {n2 i:Nat} {a:List (List UInt8)} (h:GsN c s n2 i a q) (hq:Lib.indexByte q c<0∨¬((i:Nat):Int)<((n2:Nat):Int)-1):(a.set i q).take (i+1)=splN c (n2-1) s:=by
 obtain⟨h1,h2,h3,h4⟩:=h
 have e:splN c (n2-1-i) q=[q]:=by
  rcases hq with hq|hq
  ·exact splN_no _ hq
  ·rw[show n2-1-i=0 by omega];rfl
 rw[h4,e,take_succ_at _ i [] (by rw[List.length_set];omega),List.take_set_of_le (Nat.le_refl _)]
 congr 2
 rw[List.getD_eq_getElem?_getD,List.getElem?_set_self (by omega)];rfl
end Go.Lens.Tm
end
section
namespace Go.Lens.Tm
open Go.Lens.Tb Go.Proofs
variable [Lz]
set_option linter.unusedSectionVars false
set_option maxHeartbeats 4000000
set_option maxRecDepth 100000
attribute [local irreducible] TK PK T RG EfR Body CG
theorem w170n (hp:PowLaid) (s:List UInt8) (c:UInt8) (n:Nat) (hl:s.length≤1000000) (hn:1≤n):CallOk Tryz.prog 170 [vS (bsO s),vS (bsO [c]),vI 0,vI n] (lookM []) (vL eN (splN c (n-1) s)) []:=by
 refine cG qf170 rfl (nB rfl) rfl (E rfl (B.nilS (enc:=eN) rfl) (Cp rfl rfl (fun h1=>?_) (fun h1=>?_)))
 ·exact absurd h1 (by omega)
 ·refine E rfl (B.seqB (a:=[c]) (b:=[]) rfl rfl) (CF rfl rfl (Cp rfl rfl (fun h2=>?_) (fun h2=>?_)))
  ·exact absurd h2 (by omega)
  ·refine E rfl (B.lenB (a:=s) rfl un9) (E rfl (B.add rfl rfl (by unfold R64;omega)) (E rfl (B.min rfl rfl) ?_))
   refine tk 8 rfl ?_
   refine tn ⟨[(0,vS (bsO s)),(1,vS (bsO [c])),(2,vI 0),(3,vI (min (n:Int) ((s.length:Int)+1)))],[]⟩ rfl rfl rfl ?_
   obtain⟨n2,hn2⟩:∃ n2,n2=min n (s.length+1):=⟨_,rfl⟩
   rw[show (min (n:Int) ((s.length:Int)+1))=(n2:Int) by omega]
   refine kc (E rfl (B.makeSl (enc:=eN) (sz:=1) (z0:=[]) (n:=n2) (m:=n2) rfl rfl rfl un73 in9 rfl rfl rfl by9 (by first|omega|(simp only[List.length_set];omega)|(simp only[List.length_cons,List.length_nil];omega)) rfl rfl) (E rfl (B.sub rfl rfl (by unfold R64;omega)) (l3 (fun (i:Nat) (a:List (List UInt8)) (q:List UInt8)=>[(0,vS (bsO q)),(1,vS (bsO [c])),(2,vI 0),(3,vI ((n2:Int)-1)),(9,.aref 32 0),(10,vI i)]) (fun _ a _=>[(32,.arr 0 1 9 (List.map eN a))]) (fun i a q=>GsN c s n2 i a q) (fun i _ _=>n2-i) 0 (List.replicate n2 []) s rfl ?_ (sb rfl rfl rfl) ?_)))
   · exact⟨List.length_replicate,Nat.le_refl _,by omega,by simp⟩
   intro i a q hI0
   have hal:=hI0.1
   have hil:=hI0.2.2.1
   refine Cp rfl rfl (fun h3=>?_) (fun h3=>?_)
   ·have hql:=hI0.2.1
    refine C rfl (w245 hp q c (by omega)) rfl rfl rfl (Cp rfl rfl (fun h4=>?_) (fun h4=>?_))
    ·have hal:=hI0.1
     have hil:=hI0.2.2.1
     exact E rfl (B.idxE (n:=i) rfl rfl rfl un73 sz9 rfl (by first|omega|(simp only[List.length_set];omega)|(simp only[List.length_cons,List.length_nil];omega))) (E rfl (B.setE (z0:=q) rfl rfl rfl rfl rfl sz9 (by first|omega|(simp only[List.length_set];omega)|(simp only[List.length_cons,List.length_nil];omega)) (fun _=>rfl)) (Fz 18 9 rfl rfl rfl (E rfl (B.add rfl rfl (by unfold R64;omega)) (E rfl (B.slT (j:=(i+1)) rfl rfl un73 sz9 (by omega) (by first|omega|(simp only[List.length_set];omega)|(simp only[List.length_cons,List.length_nil];omega))) (Rt rfl (leaf (val0:=vL eN (List.take (i+1) (List.set a i q))) (by kernel_rfl) (lsl (by rw[←splN_min hn hn2];first|exact gsn_end hI0 (.inl (by assumption))|exact gsn_end hI0 (.inr (by assumption))))))))))
    ·refine tk 14 rfl ?_
     refine tn ⟨[(0,vS (bsO q)),(1,vS (bsO [c])),(2,vI 0),(3,vI ((n2:Int)-1)),(9,.aref 32 0),(10,vI i),(11,vI (Lib.indexByte q c))],[(32,.arr 0 1 9 (List.map eN a))]⟩ rfl rfl rfl ?_
     obtain⟨m,hm,hmq,hm2,hm3⟩:=ix_nat (show 0≤Lib.indexByte q c by omega)
     rw[hm]
     refine kc (E rfl (B.add rfl rfl (by unfold R64;omega)) (E rfl (B.slHB (a:=q) (j:=(Int.toNat ((m:Int)+0))) rfl rfl un9 (Int.toNat_of_nonneg (by first|omega|(simp only[List.length_set];omega)|(simp only[List.length_cons,List.length_nil];omega))).symm (by first|omega|(simp only[List.length_set];omega)|(simp only[List.length_cons,List.length_nil];omega))) (E rfl (B.idxE (n:=i) rfl rfl rfl un73 sz9 rfl (by first|omega|(simp only[List.length_set];omega)|(simp only[List.length_cons,List.length_nil];omega))) (E rfl (B.setE (z0:=(List.take (Int.toNat ((m:Int)+0)) q)) rfl rfl rfl rfl rfl sz9 (by first|omega|(simp only[List.length_set];omega)|(simp only[List.length_cons,List.length_nil];omega)) (fun _=>rfl)) (E rfl (B.lenB1 (c:=c) rfl un9) (E rfl (B.add rfl rfl (by unfold R64;omega)) (E rfl (B.slLB (a:=q) (i:=(m+1)) rfl rfl un9 (by omega) (by first|omega|(simp only[List.length_set];omega)|(simp only[List.length_cons,List.length_nil];omega))) (E rfl (B.add rfl rfl (by unfold R64;omega)) (pk rfl (L3 (i+1) (List.set a i (List.take (Int.toNat ((m:Int)+0)) q)) (List.drop (m+1) q) ?_ ?_ (sb rfl rfl rfl)))))))))))
     · exact gsn_step hI0 (by assumption) hm
     · omega
   ·have hal:=hI0.1
    have hil:=hI0.2.2.1
    exact E rfl (B.idxE (n:=i) rfl rfl rfl un73 sz9 rfl (by first|omega|(simp only[List.length_set];omega)|(simp only[List.length_cons,List.length_nil];omega))) (E rfl (B.setE (z0:=q) rfl rfl rfl rfl rfl sz9 (by first|omega|(simp only[List.length_set];omega)|(simp only[List.length_cons,List.length_nil];omega)) (fun _=>rfl)) (Fz 18 9 rfl rfl rfl (E rfl (B.add rfl rfl (by unfold R64;omega)) (E rfl (B.slT (j:=(i+1)) rfl rfl un73 sz9 (by omega) (by first|omega|(simp only[List.length_set];omega)|(simp only[List.length_cons,List.length_nil];omega))) (Rt rfl (leaf (val0:=vL eN (List.take (i+1) (List.set a i q))) (by kernel_rfl) (lsl (by rw[←splN_min hn hn2];first|exact gsn_end hI0 (.inl (by assumption))|exact gsn_end hI0 (.inr (by assumption))))))))))
theorem w280 (hp:PowLaid) (s:List UInt8) (c:UInt8) (n:Nat) (hl:s.length≤1000000) (hn:1≤n):CallOk Tryz.prog 280 [vS (bsO s),vS (bsO [c]),vI n] (lookM []) (vL eN (splN c (n-1) s)) []:=by
 exact cG qf280 rfl (nB rfl) rfl (E rfl (B.nilS (enc:=eN) rfl) (C rfl (w170n hp s c n hl hn) rfl rfl rfl (Rt rfl (leaf rfl rfl))))
end Go.Lens.Tm
end
section
namespace Go.Lens.Tm
open Go.Lens.Tb Go.Proofs
set_option linter.unusedSectionVars false
variable [Lz]
def offN:Nat→List (List UInt8)→Nat
 | 0,_=>0
 | _,[]=>0
 | n+1,w::l=>w.length+1+offN n l
theorem offN_next:∀ (l:List (List UInt8)) (n:Nat),n<l.length→offN (n+1) l=offN n l+(l.getD n []).length+1
 | [],_,h=>absurd h (by simp)
 | w::l,0,_=>by
  show w.length+1+offN 0 l=0+w.length+1
  rw[show offN 0 l=0 by cases l<;>rfl];omega
 | w::l,n+1,h=>by
  have:=offN_next l n (by simp at h;omega)
  show w.length+1+offN (n+1) l=w.length+1+offN n l+(l.getD n []).length+1
  omega
theorem splC_no {c:UInt8} {s:List UInt8} (h:Lib.indexByte s c<0):splC c s=[s]:=by
 unfold splC;rw[splG_none s [] (ix_neg h)];rfl
theorem splC_at {c:UInt8} {s:List UInt8} {m:Nat} (h:Lib.indexByte s c=(m:Int)):splC c s=s.take m::splC c (s.drop (m+1))∧m<s.length:=by
 obtain⟨m2,hm,h1,h2,h3⟩:=ix_nat (show 0≤Lib.indexByte s c by omega)
 have e:m2=m:=by omega
 subst e
 exact⟨(splG_at s [] m2 h1 h2 h3).1,h1⟩
theorem splN_cut (c:UInt8):∀ (n:Nat) (s:List UInt8),(splN c n s).take n=(splC c s).take n∧(splN c n s).length=min (n+1) (splC c s).length∧1≤(splC c s).length∧(n<(splC c s).length→(splN c n s).getD n []=s.drop (offN n (splC c s))∧offN n (splC c s)≤s.length)
 | 0,s=>by
  have h1:1≤(splC c s).length:=by
   by_cases h:Lib.indexByte s c<0
   ·rw[splC_no h];simp
   ·rw[(splC_at (m:=(Lib.indexByte s c).toNat) (by omega)).1];simp
  refine⟨by simp,?_,h1,fun _=>⟨?_,by simp[offN]⟩⟩
  ·show 1=_;omega
  ·rw[show offN 0 (splC c s)=0 by cases splC c s<;>rfl];rfl
 | n+1,s=>by
  by_cases h:Lib.indexByte s c<0
  ·rw[splN_no _ h,splC_no h]
   exact⟨rfl,by simp,by simp,fun hh=>absurd hh (by simp)⟩
  ·obtain⟨m,hm⟩:∃ m:Nat,Lib.indexByte s c=(m:Int):=⟨(Lib.indexByte s c).toNat,by omega⟩
   obtain⟨i1,i2,i3,i4⟩:=splN_cut c n (s.drop (m+1))
   obtain⟨e,hms⟩:=splC_at hm
   rw[splN_at hm,e]
   refine⟨by rw[List.take_succ_cons,List.take_succ_cons,i1],by rw[List.length_cons,List.length_cons];omega,by rw[List.length_cons];omega,fun hh=>?_⟩
   rw[List.length_cons] at hh
   obtain⟨k1,k2⟩:=i4 (by omega)
   have eo:offN (n+1) (s.take m::splC c (s.drop (m+1)))=m+1+offN n (splC c (s.drop (m+1))):=by
    show (s.take m).length+1+_=_
    rw[List.length_take];omega
   rw[List.length_drop] at k2
   refine⟨?_,by omega⟩
   rw[eo]
   show (splN c n (s.drop (m+1))).getD n []=_
   rw[k1,List.drop_drop]
theorem cut3_head (s:List UInt8):(cut3 s 32).1=(splS s).getD 0 []:=by
 rw[←splC_32]
 by_cases h:Lib.indexByte s 32<0
 ·rw[cut3_no (by omega),splC_no h];rfl
 ·obtain⟨m,hm⟩:∃ m:Nat,Lib.indexByte s 32=(m:Int):=⟨(Lib.indexByte s 32).toNat,by omega⟩
  rw[cut3_yes hm,(splC_at hm).1];rfl
def fillG (f:List UInt8→Int×Bool) (a:Nat):List (List UInt8)→List (List UInt8)→List Int→Option (List (List UInt8)×List Int)
 | [],ns,vs=>some (ns,vs)
 | w::ws,ns,vs=>if w=[] then none else if ns.length<a then fillG f a ws (ns++[w]) vs else if (f w).2=true then fillG f a ws ns (vs++[(f w).1]) else none
theorem fillG_congr {f g:List UInt8→Int×Bool} (h:∀ w,(f w).2=(g w).2∧((g w).2=true→(f w).1=(g w).1)) (a:Nat):∀ (ws ns:List (List UInt8)) (vs:List Int),fillG f a ws ns vs=fillG g a ws ns vs
 | [],_,_=>rfl
 | w::ws,ns,vs=>by
  rw[fillG,fillG,fillG_congr h a ws (ns++[w]) vs,fillG_congr h a ws ns (vs++[(f w).1]),(h w).1]
  by_cases h2:(g w).2=true
  ·rw[(h w).2 h2]
  ·rw[if_neg h2,if_neg h2]
def intQ (s:List UInt8):Int×Bool:=((intR s).getD 0,(intR s).isSome)
def aK (k:List UInt8):Nat:=(frmK k).1.toNat
def nK (k:List UInt8):Nat:=(1+(frmK k).1+(frmK k).2.1).toNat
def opK (k:List UInt8):Bool:=decide (k=kRun)||decide (k=kCal)
abbrev hdK (s:List UInt8):List UInt8:=(splS s).getD 0 []
def badK (s:List UInt8):Bool:=!(frmK (hdK s)).2.2||(decide ((splS s).length<nK (hdK s))||((decide (nK (hdK s)<(splS s).length)&&!opK (hdK s))||(decide ((splS s).length=nK (hdK s))&&decide (hdK s=kRun))))
def txtK (s:List UInt8):List UInt8:=s.drop (offN (nK (hdK s)) (splS s))
def readR (s:List UInt8):Ev×Bool:=if badK s=true then (zV,false) else match fillG intQ (aK (hdK s)) (((splS s).take (nK (hdK s))).drop 1) [] [] with
 | none=>(zV,false)
 | some r=>if nK (hdK s)<(splS s).length then (if txtK s=[] then (zV,false) else ((0,hdK s,r.1,r.2,txtK s),true)) else ((0,hdK s,r.1,r.2,[]),true)
abbrev spP (s:List UInt8):List (List UInt8):=splN 32 (nK (hdK s)) s
def readP (s:List UInt8):Ev×Bool:=if (frmK (hdK s)).2.2=false then (zV,false) else if (spP s).length<nK (hdK s) then (zV,false) else match fillG intV (aK (hdK s)) (((spP s).take (nK (hdK s))).drop 1) [] [] with
 | none=>(zV,false)
 | some r=>if nK (hdK s)<(spP s).length then ((0,hdK s,r.1,r.2,(spP s).getD (nK (hdK s)) []),opK (hdK s)&&decide ((spP s).getD (nK (hdK s)) []≠[])) else ((0,hdK s,r.1,r.2,[]),decide (hdK s≠kRun))
theorem read_same (s:List UInt8):(readP s).2=(readR s).2∧((readR s).2=true→(readP s).1=(readR s).1):=by
 obtain⟨h1,h2,h3,h4⟩:=splN_cut 32 (nK (hdK s)) s
 rw[splC_32] at h1 h2 h3 h4
 replace h2:(spP s).length=_:=h2
 have ef:=fillG_congr (f:=intV) (g:=intQ) (fun w=>int_same w) (aK (hdK s)) (((splS s).take (nK (hdK s))).drop 1) [] []
 rw[←h1] at ef
 unfold readP readR
 rw[h1] at ef ⊢
 rw[ef]
 by_cases hk:(frmK (hdK s)).2.2=false
 ·have hb:badK s=true:=by unfold badK;rw[hk];rfl
  rw[if_pos hk,if_pos hb]
  exact⟨rfl,fun h=>rfl⟩
 rw[if_neg hk]
 by_cases hl:(splS s).length<nK (hdK s)
 ·have hb:badK s=true:=by unfold badK;rw[decide_eq_true hl];simp
  rw[if_pos (by omega),if_pos hb]
  exact⟨rfl,fun h=>rfl⟩
 rw[if_neg (by omega)]
 have hkt:(frmK (hdK s)).2.2=true:=by simpa using hk
 by_cases hg:nK (hdK s)<(splS s).length
 ·have hb:badK s=!opK (hdK s):=by
   unfold badK;rw[hkt,decide_eq_false hl,decide_eq_true hg,decide_eq_false (by omega)];simp
  obtain⟨k1,k2⟩:=h4 hg
  cases hf:fillG intQ (aK (hdK s)) (((splS s).take (nK (hdK s))).drop 1) [] [] with
  | none=>
   rw[hb]
   cases opK (hdK s)
   ·exact⟨rfl,fun h=>rfl⟩
   ·exact⟨rfl,fun h=>rfl⟩
  | some r=>
   simp only[]
   rw[hb,if_pos (show nK (hdK s)<(spP s).length by omega),if_pos hg,k1]
   have ht0:List.drop (offN (nK (hdK s)) (splS s)) s=txtK s:=rfl
   rw[ht0]
   cases hop:opK (hdK s)
   ·exact⟨rfl,fun h=>by cases h⟩
   ·by_cases ht:txtK s=[]
    ·simp[ht]
    ·simp[ht]
 ·have he:(splS s).length=nK (hdK s):=by omega
  have hb:badK s=decide (hdK s=kRun):=by
   unfold badK;rw[hkt,decide_eq_false hl,decide_eq_false hg,decide_eq_true he];simp
  cases hf:fillG intQ (aK (hdK s)) (((splS s).take (nK (hdK s))).drop 1) [] [] with
  | none=>
   rw[hb]
   cases decide (hdK s=kRun)
   ·exact⟨rfl,fun h=>rfl⟩
   ·exact⟨rfl,fun h=>rfl⟩
  | some r=>
   simp only[]
   rw[hb,if_neg (show ¬nK (hdK s)<(spP s).length by omega),if_neg hg]
   by_cases hr:hdK s=kRun
   ·rw[decide_eq_true hr,if_pos rfl]
    exact⟨by rw[decide_eq_false (by simpa using hr)],fun h=>by cases h⟩
   ·rw[decide_eq_false hr,if_neg (by simp)]
    exact⟨by rw[decide_eq_true hr],fun _=>rfl⟩
end Go.Lens.Tm
end
section
namespace Go.Lens
variable [Lz]
theorem TK.frzCC {P:Program} {n nb:Nat} {Q:Exit→St→Prop} {K:List Fr} {c:Code} {s:St} {h h2 h3 v v3 sz sz3:Nat} {T0 T1 T3:TypeId} {ds:List DV} {cs:List PV} {es es3:List (List PV)} (hm2:lookM s.ms h2=some (.arr v sz T1 es)) (hm3:lookM ((h2,.farr v es)::s.ms) h3=some (.arr v3 sz3 T3 es3)) (hm:lookM ((h3,.farr v3 es3)::(h2,.farr v es)::s.ms) h=some (.box T0 ds))
  (hp:pvOfL (lookM ((h3,.farr v3 es3)::(h2,.farr v es)::s.ms)) ds=some cs) (k:TK P n nb Q c K ⟨s.tm,(h,.box T0 (cs.map .pv))::(h3,.farr v3 es3)::(h2,.farr v es)::s.ms⟩):TK P n nb Q c K s:=
 T.weak (wk_frz0 (by unfold frzStep;rw[hm2])) (T.weak (wk_frz0 (s:=⟨s.tm,(h2,.farr v es)::s.ms⟩) (by unfold frzStep;rw[hm3])) (T.weak (wk_boxpv hm hp) k))
end Go.Lens
end
section
namespace Go.Lens.Tm
open Go.Lens.Tb Go.Proofs
set_option linter.unusedSectionVars false
variable [Lz]
theorem splS_pos (s:List UInt8):1≤(splS s).length:=by rw[←splC_32];exact (splN_cut 32 0 s).2.2.1
theorem offN_le {s:List UInt8} {i:Nat} (h:i≤(splS s).length):offN i (splS s)≤2*s.length+1:=by
 cases i with
 | zero=>rw[show offN 0 (splS s)=0 by cases splS s<;>rfl];omega
 | succ j=>
  rw[offN_next _ _ h]
  have h1:=(splN_cut 32 j s).2.2.2
  rw[splC_32] at h1
  have h2:=(h1 h).2
  have h3:((splS s).getD j []).length≤s.length:=by
   have hm:(splS s).getD j []∈splC 32 s:=by rw[splC_32];exact getD_mem h
   exact splC_mem hm
  omega
def RdI (s:List UInt8) (L:List (List UInt8)) (f:List UInt8→Int×Bool) (n i:Nat) (ns:List (List UInt8)) (vs:List Int):Prop:=1≤i∧i≤n∧ns.length≤i∧vs.length≤i∧ns.length=min (i-1) (aK (hdK s))∧fillG f (aK (hdK s)) ((L.take n).drop 1) [] []=fillG f (aK (hdK s)) ((L.take n).drop i) ns vs
section
variable {s:List UInt8} {L:List (List UInt8)} {f:List UInt8→Int×Bool} {n i:Nat} {ns:List (List UInt8)} {vs:List Int}
theorem rd_start (h:1≤n):RdI s L f n 1 [] []:=⟨Nat.le_refl _,h,by simp,by simp,by simp,rfl⟩
theorem rd_cons (hi:i<n) (hn:n≤L.length):(L.take n).drop i=L.getD i []::(L.take n).drop (i+1):=by
 have h1:i<(L.take n).length:=by rw[List.length_take];omega
 rw[List.drop_eq_getElem_cons h1]
 congr 1
 rw[List.getElem_take,List.getD_eq_getElem?_getD,List.getElem?_eq_getElem (by omega)];rfl
variable (h:RdI s L f n i ns vs) (hn:n≤L.length)
include h
theorem rd_over (hi:¬i<n):fillG f (aK (hdK s)) ((L.take n).drop 1) [] []=some (ns,vs):=by
 rw[h.2.2.2.2.2,List.drop_eq_nil_of_le (by rw[List.length_take];omega)];rfl
include hn
theorem rd_emp (hi:i<n) (he:L.getD i []=[]):fillG f (aK (hdK s)) ((L.take n).drop 1) [] []=none:=by
 rw[h.2.2.2.2.2,rd_cons hi hn,fillG,if_pos he]
theorem rd_nam (hi:i<n) (he:L.getD i []≠[]) (ha:i≤aK (hdK s)):RdI s L f n (i+1) (ns++[L.getD i []]) vs:=by
 obtain⟨h1,h2,h3,h4,h5,h6⟩:=h
 refine⟨by omega,by omega,by rw[List.length_append,List.length_singleton];omega,by omega,by rw[List.length_append,List.length_singleton];omega,?_⟩
 rw[h6,rd_cons hi hn,fillG,if_neg he,if_pos (by omega)]
theorem rd_val (hi:i<n) (he:L.getD i []≠[]) (ha:¬i≤aK (hdK s)) (hf:(f (L.getD i [])).2=true):RdI s L f n (i+1) ns (vs++[(f (L.getD i [])).1]):=by
 obtain⟨h1,h2,h3,h4,h5,h6⟩:=h
 refine⟨by omega,by omega,by omega,by rw[List.length_append,List.length_singleton];omega,by omega,?_⟩
 rw[h6,rd_cons hi hn,fillG,if_neg he,if_neg (by omega),if_pos hf]
theorem rd_int (hi:i<n) (he:L.getD i []≠[]) (ha:¬i≤aK (hdK s)) (hf:(f (L.getD i [])).2=false):fillG f (aK (hdK s)) ((L.take n).drop 1) [] []=none:=by
 obtain⟨h1,h2,h3,h4,h5,h6⟩:=h
 rw[h6,rd_cons hi hn,fillG,if_neg he,if_neg (by omega),if_neg (by rw[hf];decide)]
end
theorem rr_bad {s:List UInt8} (h:badK s=true):readR s=(zV,false):=by unfold readR;rw[if_pos h]
section
variable {s:List UInt8} {n:Nat} (hn:n=nK (hdK s)) (h:badK s=false)
include hn h
theorem rr_none (hf:fillG intQ (aK (hdK s)) (((splS s).take n).drop 1) [] []=none):readR s=(zV,false):=by
 subst hn;unfold readR;rw[if_neg (by rw[h];decide),hf]
theorem rr_nil {r} (hf:fillG intQ (aK (hdK s)) (((splS s).take n).drop 1) [] []=some r) (hl:n<(splS s).length) {t:List UInt8} (ht:txtK s=t) (h0:t=[]):readR s=(zV,false):=by
 subst hn;unfold readR;rw[if_neg (by rw[h];decide),hf];simp only[];rw[if_pos hl,ht,if_pos h0]
theorem rr_txt {r} (hf:fillG intQ (aK (hdK s)) (((splS s).take n).drop 1) [] []=some r) (hl:n<(splS s).length) {t:List UInt8} (ht:txtK s=t) (h0:¬t=[]):readR s=((0,hdK s,r.1,r.2,t),true):=by
 subst hn;unfold readR;rw[if_neg (by rw[h];decide),hf];simp only[];rw[if_pos hl,ht,if_neg h0]
theorem rr_all {r} (hf:fillG intQ (aK (hdK s)) (((splS s).take n).drop 1) [] []=some r) (hl:¬n<(splS s).length):readR s=((0,hdK s,r.1,r.2,[]),true):=by
 subst hn;unfold readR;rw[if_neg (by rw[h];decide),hf];simp only[];rw[if_neg hl]
end
theorem txt_at {s:List UInt8} {n a:Nat} (hn:n=nK (hdK s)) (h:a+1=offN n (splS s)):txtK s=s.drop (a+1):=by subst hn;rw[h];rfl
theorem off_one (s:List UInt8):((splS s).getD 0 []).length+1=offN 1 (splS s):=by
 rw[offN_next (splS s) 0 (splS_pos s),show offN 0 (splS s)=0 by cases splS s<;>rfl];omega
theorem off_txt {s:List UInt8} {n:Nat} (hn:n=nK (hdK s)) (hl:n<(splS s).length):offN n (splS s)≤s.length:=by
 subst hn
 have h1:=(splN_cut 32 (nK (hdK s)) s).2.2.2
 rw[splC_32] at h1
 exact (h1 hl).2
theorem nK_int (k:List UInt8):((nK k:Nat):Int)=1+(frmK k).1+(frmK k).2.1∧((aK k:Nat):Int)=(frmK k).1∧nK k≤9∧1≤nK k:=by
 have:=frm_rng k
 unfold nK aK
 omega
theorem bad_b {s:List UInt8} {n:Nat} (hn:n=nK (hdK s)):(bif (bif (bif (!(Prod.snd (Prod.snd (frmK (List.getD (splS s) 0 []))))) then true else (decide (((List.length (splS s):Nat):Int)<((n:Nat):Int)))) then true else (bif (decide (((n:Nat):Int)<((List.length (splS s):Nat):Int))) then (!(bif (decide ((List.getD (splS s) 0 [])=[114,117,110])) then true else (decide ((List.getD (splS s) 0 [])=[99,97,108,105,98,114,97,116,101])))) else false)) then true else (bif (decide (((List.length (splS s):Nat):Int)=((n:Nat):Int))) then (decide ((List.getD (splS s) 0 [])=[114,117,110])) else false))=badK s:=by
 subst hn
 unfold badK opK
 rw[show decide (((List.length (splS s):Nat):Int)<((nK (hdK s):Nat):Int))=decide ((splS s).length<nK (hdK s)) from decide_eq_decide.2 Int.ofNat_lt,
  show decide (((nK (hdK s):Nat):Int)<((List.length (splS s):Nat):Int))=decide (nK (hdK s)<(splS s).length) from decide_eq_decide.2 Int.ofNat_lt,
  show decide (((List.length (splS s):Nat):Int)=((nK (hdK s):Nat):Int))=decide ((splS s).length=nK (hdK s)) from decide_eq_decide.2 Int.natCast_inj]
 generalize (frmK (hdK s)).2.2=x1
 generalize decide ((splS s).length<nK (hdK s))=x2
 generalize decide (nK (hdK s)<(splS s).length)=x3
 generalize decide ((splS s).length=nK (hdK s))=x4
 generalize decide (hdK s=kRun)=x5
 generalize decide (hdK s=kCal)=x6
 cases x1<;>cases x2<;>cases x3<;>cases x4<;>cases x5<;>cases x6<;>rfl
theorem bad_len {s:List UInt8} (h:badK s=false):nK (hdK s)≤(splS s).length:=by
 by_cases hl:(splS s).length<nK (hdK s)
 ·unfold badK at h;rw[decide_eq_true hl] at h;simp at h
 ·omega
theorem nK_s (s:List UInt8):((nK (hdK s):Nat):Int)=1+(frmK (List.getD (splS s) 0 [])).1+(frmK (List.getD (splS s) 0 [])).2.1∧((aK (hdK s):Nat):Int)=(frmK (List.getD (splS s) 0 [])).1∧nK (hdK s)≤9∧1≤nK (hdK s):=nK_int _
end Go.Lens.Tm
end
section
namespace Go.Lens.Tm
open Go.Lens.Tb Go.Proofs
variable [Lz]
set_option linter.unusedSectionVars false
set_option maxRecDepth 100000
attribute [local irreducible] TK PK T RG EfR Body CG
set_option maxHeartbeats 4000000 in
theorem w74 (s:List UInt8) (hl:s.length≤1000000):CallOk Tryz.prog 74 [vS (bsO s)] (lookM []) (.tup [.pv (.agg [pI (readR s).1.1,pS (bsO (readR s).1.2.1),pL eN (readR s).1.2.2.1,pL eI (readR s).1.2.2.2.1,pS (bsO (readR s).1.2.2.2.2)]),vB (readR s).2]) []:=by
 refine cG qf74 rfl (nB rfl) rfl ?_
 have hsp:=splS_pos s
 have hsl:=splS_len s
 have hfr:=frm_rng (List.getD (splS s) 0 [])
 have hnk:=nK_s s
 refine E rfl (B.runZ rfl (fun l=>Frz.boxN l rfl) rfl) (C rfl (w119 s (by omega)) rfl rfl rfl (E rfl (B.idx (z:=[]) (i:=0) rfl rfl un73 sz9 (fun _=>rfl) rfl (by omega)) (C rfl (w144 (List.getD (splS s) 0 [])) rfl rfl rfl (E rfl (B.add rfl rfl (by unfold R64;omega)) (E rfl (B.add rfl rfl (by unfold R64;omega)) ?_)))))
 refine tk 4 rfl ?_
 refine tn ⟨[(0,vS (bsO s)),(2,.bref 3 0),(4,vL eN (splS s)),(5,.bref 6 0),(6,vI ((1+(frmK (List.getD (splS s) 0 [])).1)+(frmK (List.getD (splS s) 0 [])).2.1))],[(3,.box 119 [vI 0,vS (bsO []),vL eN [],vL eI [],vS (bsO [])]),(6,.box 241 [vI (frmK (List.getD (splS s) 0 [])).1,vI (frmK (List.getD (splS s) 0 [])).2.1,vB (frmK (List.getD (splS s) 0 [])).2.2])]⟩ rfl rfl rfl ?_
 obtain⟨n,hn⟩:∃ n,n=nK (hdK s):=⟨_,rfl⟩
 rw[show ((1+(frmK (List.getD (splS s) 0 [])).1)+(frmK (List.getD (splS s) 0 [])).2.1)=(n:Int) by rw[hn,hnk.1]]
 refine kc (E rfl (B.idx (z:=[]) (i:=0) rfl rfl un73 sz9 (fun _=>rfl) rfl (by omega)) (E rfl (B.seqB (a:=(List.getD (splS s) 0 [])) (b:=[114,117,110]) rfl rfl) (Eg rfl rfl (fun hc=>B.move rfl) rfl (Eg rfl rfl (fun hc=>B.idx (z:=[]) (i:=0) (ev1_gd rfl hc) rfl un73 sz9 (fun _=>rfl) rfl (by omega)) rfl (Eg rfl rfl (fun hc=>B.loadP (ev1_gd rfl hc) ag9 sz9) rfl (Eg rfl rfl (fun hc=>B.seqB (a:=(List.getD (splS s) 0 [])) (b:=[99,97,108,105,98,114,97,116,101]) (ev1_gd rfl hc) rfl) rfl (E rfl (B.pick rfl rfl rfl rfl (gdB rfl) (pick_or _)) (Eg rfl rfl (fun hc=>B.move rfl) rfl (Eg rfl rfl (fun hc=>B.lenL (ev1_gd rfl hc) un73) rfl (Eg rfl rfl (fun hc=>B.move rfl) rfl (Eg rfl rfl (fun hc=>B.lss (ev1_gd rfl hc) (ev1_gd rfl hc)) rfl (E rfl (B.pick rfl rfl rfl rfl (gdB rfl) (pick_or _)) (Eg rfl rfl (fun hc=>B.move rfl) rfl ?_)))))))))))))
 refine Eg rfl rfl (fun hc=>B.lenL (ev1_gd rfl hc) un73) rfl (Eg rfl rfl (fun hc=>B.move rfl) rfl (Eg rfl rfl (fun hc=>B.gtr (ev1_gd rfl hc) (ev1_gd rfl hc)) rfl (Eg rfl rfl (fun hc=>B.move (ev1_gd rfl hc)) rfl (Eg rfl rfl (fun hc=>B.move rfl) rfl (Eg rfl rfl (fun hc=>B.not (ev1_gd rfl hc)) rfl (Eg rfl rfl (fun hc=>B.pick (ev1_gd rfl hc) rfl rfl (gdB rfl) rfl (pick_and2 hc)) rfl (E rfl (B.pick rfl rfl rfl rfl (gdB rfl) (pick_or _)) (Eg rfl rfl (fun hc=>B.move rfl) rfl (Eg rfl rfl (fun hc=>B.lenL (ev1_gd rfl hc) un73) rfl (Eg rfl rfl (fun hc=>B.move rfl) rfl (Eg rfl rfl (fun hc=>B.eql (ev1_gd rfl hc) (ev1_gd rfl hc)) rfl (Eg rfl rfl (fun hc=>B.move (ev1_gd rfl hc)) rfl (Eg rfl rfl (fun hc=>B.move rfl) rfl ?_)))))))))))))
 refine Eg rfl rfl (fun hc=>B.idx (z:=[]) (i:=0) (ev1_gd rfl hc) rfl un73 sz9 (fun _=>rfl) rfl (by omega)) rfl (Eg rfl rfl (fun hc=>B.loadP (ev1_gd rfl hc) ag9 sz9) rfl (Eg rfl rfl (fun hc=>B.seqB (a:=(List.getD (splS s) 0 [])) (b:=[114,117,110]) (ev1_gd rfl hc) rfl) rfl (Eg rfl rfl (fun hc=>B.pick (ev1_gd rfl hc) rfl rfl (gdB rfl) rfl (pick_and2 hc)) rfl (E rfl (B.pick rfl rfl rfl rfl (gdB rfl) (pick_or _)) (Cb rfl rfl (fun h1=>?_) (fun h1=>?_))))))
 ·have hq:=rr_bad ((bad_b hn).symm.trans h1)
  exact E rfl (B.runZ (val:=.pv (.agg [pI 0,pS (bsO []),pL eN [],pL eI [],pS (bsO [])])) rfl (fun l=>Frz.aggN l rfl) rfl) (Rt rfl (leaf (val0:=.tup [.pv (.agg [pI 0,pS (bsO []),pL eN [],pL eI [],pS (bsO [])]),vB false]) (by kernel_rfl) (tup2 (lag (lcons (pli (by rw[hq])) (lcons (pls (by rw[hq])) (lcons (plsl (by rw[hq])) (lcons (plsl (by rw[hq])) (lcons (pls (by rw[hq])) rfl)))))) (lb (by rw[hq])))))
 ·have hb:badK s=false:=(bad_b hn).symm.trans h1
  have hnL:n≤List.length (splS s):=by have:=bad_len hb;omega
  refine E rfl (B.idx (z:=[]) (i:=0) rfl rfl un73 sz9 (fun _=>rfl) rfl (by omega)) (E rfl (B.run rfl) (E rfl (B.runZ rfl (fun l=>Frz.boxN l rfl) rfl) ?_))
  refine tk 8 rfl ?_
  refine TK.adoptC 9 2 401 1 9 rfl rfl rfl rfl ?_
  refine TK.adoptC 9 3 402 1 3 rfl rfl rfl rfl ?_
  refine TK.norm ⟨[(0,vS (bsO s)),(2,.bref 3 0),(4,vL eN (splS s)),(5,.bref 6 0),(6,vI n),(8,.bref 9 0)],[(3,.box 119 [vI 0,vS (bsO []),vL eN [],vL eI [],vS (bsO [])]),(6,.box 241 [vI (frmK (List.getD (splS s) 0 [])).1,vI (frmK (List.getD (splS s) 0 [])).2.1,vB (frmK (List.getD (splS s) 0 [])).2.2]),(9,.box 119 [vI 0,vS (bsO (List.getD (splS s) 0 [])),.aref 401 0,.aref 402 0,vS (bsO [])]),(401,.arr 0 1 9 (List.map eN [])),(402,.arr 0 1 3 (List.map eI []))]⟩ (sb rfl rfl rfl) ?_
  refine kc (E rfl (B.idx (z:=[]) (i:=0) rfl rfl un73 sz9 (fun _=>rfl) rfl (by omega)) (E rfl (B.lenB (a:=(List.getD (splS s) 0 [])) rfl un9) (l6 (fun (i:Nat) (at0:Nat) (v1:Nat) (v2:Nat) (ns:List (List UInt8)) (vs:List Int)=>[(0,vS (bsO s)),(2,.bref 3 0),(4,vL eN (splS s)),(5,.bref 6 0),(6,vI n),(8,.bref 9 0),(9,vI at0),(10,vI i)]) (fun _ _ v1 v2 ns vs=>[(3,.box 119 [vI 0,vS (bsO []),vL eN [],vL eI [],vS (bsO [])]),(6,.box 241 [vI (frmK (List.getD (splS s) 0 [])).1,vI (frmK (List.getD (splS s) 0 [])).2.1,vB (frmK (List.getD (splS s) 0 [])).2.2]),(9,.box 119 [vI 0,vS (bsO (List.getD (splS s) 0 [])),.aref 401 v1,.aref 402 v2,vS (bsO [])]),(401,.arr v1 1 9 (List.map eN ns)),(402,.arr v2 1 3 (List.map eI vs))]) (fun i at0 _ _ ns vs=>RdI s (splS s) intQ n i ns vs∧at0+1=offN i (splS s)) (fun i _ _ _ _ _=>n-i) 1 (List.length (List.getD (splS s) 0 [])) 0 0 [] [] rfl ?_ (sb rfl rfl rfl) ?_)))
  · exact⟨rd_start (by omega),off_one s⟩
  intro i at0 v1 v2 ns vs hI0
  have hi1:=hI0.1.1
  have hi2:=hI0.1.2.1
  have hi3:=hI0.1.2.2.1
  have hi4:=hI0.1.2.2.2.1
  refine Cp rfl rfl (fun h2=>?_) (fun h2=>?_)
  ·refine E rfl (B.idx (z:=[]) (i:=i) rfl rfl un73 sz9 (fun _=>rfl) rfl (by omega)) (E rfl (B.seqB (a:=(List.getD (splS s) i [])) (b:=[]) rfl rfl) (Cp rfl rfl (fun h3=>?_) (fun h3=>?_)))
   ·have hq:=rr_none hn hb (rd_emp hI0.1 hnL (by omega) h3)
    exact E rfl (B.runZ (val:=.pv (.agg [pI 0,pS (bsO []),pL eN [],pL eI [],pS (bsO [])])) rfl (fun l=>Frz.aggN l rfl) rfl) (Rt rfl (leaf (val0:=.tup [.pv (.agg [pI 0,pS (bsO []),pL eN [],pL eI [],pS (bsO [])]),vB false]) (by kernel_rfl) (tup2 (lag (lcons (pli (by rw[hq])) (lcons (pls (by rw[hq])) (lcons (plsl (by rw[hq])) (lcons (plsl (by rw[hq])) (lcons (pls (by rw[hq])) rfl)))))) (lb (by rw[hq])))))
   ·have hat1:=offN_le (s:=s) (i:=i+1) (by omega)
    rw[offN_next _ _ (by omega)] at hat1
    have hat0:=hI0.2
    refine E rfl (B.add rfl rfl (by unfold R64;omega)) (E rfl (B.idx (z:=[]) (i:=i) rfl rfl un73 sz9 (fun _=>rfl) rfl (by omega)) (E rfl (B.lenB (a:=(List.getD (splS s) i [])) rfl un9) (E rfl (B.add rfl rfl (by unfold R64;omega)) (Cp rfl rfl (fun h4=>?_) (fun h4=>?_)))))
    ·refine E rfl (B.idx (z:=[]) (i:=i) rfl rfl un73 sz9 (fun _=>rfl) rfl (by omega)) (E rfl (B.runZ (val:=.pv (.slice (List.map eN [(List.getD (splS s) i [])]))) rfl (fun l=>Frz.arr l _ _ _ _ _) rfl) (E rfl (B.append rfl rfl rfl un73 in9 rfl (fun _=>rfl) by9 (by (simp only[List.length_append,List.length_cons,List.length_nil];omega))) (E rfl (B.storeR rfl rfl rfl rfl sz73 rfl rfl) (Dr rfl (by kernel_rfl) (E rfl (B.add rfl rfl (by unfold R64;omega)) (pk rfl (L6 (i+1) (at0+1+List.length (List.getD (splS s) i [])) (v1+1) v2 (ns++[(List.getD (splS s) i [])]) vs ?_ ?_ (sb rfl rfl rfl))))))))
     · (refine⟨?_,by rw[offN_next _ _ (by omega)];omega⟩;exact rd_nam hI0.1 hnL (by omega) h3 (by omega))
     · omega
    ·refine E rfl (B.idx (z:=[]) (i:=i) rfl rfl un73 sz9 (fun _=>rfl) rfl (by omega)) (C rfl (w135 (List.getD (splS s) i [])) rfl rfl rfl (Cb rfl rfl (fun h5=>?_) (fun h5=>?_)))
     ·have hq:=rr_none hn hb (rd_int hI0.1 hnL (by omega) h3 (by omega) (by simpa [intQ] using h5))
      exact E rfl (B.runZ (val:=.pv (.agg [pI 0,pS (bsO []),pL eN [],pL eI [],pS (bsO [])])) rfl (fun l=>Frz.aggN l rfl) rfl) (Rt rfl (leaf (val0:=.tup [.pv (.agg [pI 0,pS (bsO []),pL eN [],pL eI [],pS (bsO [])]),vB false]) (by kernel_rfl) (tup2 (lag (lcons (pli (by rw[hq])) (lcons (pls (by rw[hq])) (lcons (plsl (by rw[hq])) (lcons (plsl (by rw[hq])) (lcons (pls (by rw[hq])) rfl)))))) (lb (by rw[hq])))))
     ·refine E rfl (B.runZ (val:=.pv (.slice (List.map eI [(Option.getD (intR (List.getD (splS s) i [])) 0)]))) rfl (fun l=>Frz.arr l _ _ _ _ _) rfl) (E rfl (B.append rfl rfl rfl un22 in3 rfl (fun _=>rfl) by3 (by (simp only[List.length_append,List.length_cons,List.length_nil];omega))) (E rfl (B.storeR rfl rfl rfl rfl sz22 rfl rfl) (E rfl (B.add rfl rfl (by unfold R64;omega)) (pk rfl (L6 (i+1) (at0+1+List.length (List.getD (splS s) i [])) v1 (v2+1) ns (vs++[(Option.getD (intR (List.getD (splS s) i [])) 0)]) ?_ ?_ (sb rfl rfl rfl))))))
      · (refine⟨?_,by rw[offN_next _ _ (by omega)];omega⟩;exact rd_val hI0.1 hnL (by omega) h3 (by omega) (by simpa [intQ] using h5))
      · omega
  ·refine tk 21 rfl ?_
   have hin:i=n:=by omega
   have hat:at0+1=offN n (splS s):=by rw[←hin];exact hI0.2
   have hov:=rd_over hI0.1 (by omega)
   refine TK.frzCC (h:=9) (h2:=401) (h3:=402) (cs:=[pI 0,pS (bsO (List.getD (splS s) 0 [])),pL eN ns,pL eI vs,pS (bsO [])]) rfl rfl rfl (by simp[pvOfL,pvOf,lookM]) ?_
   refine TK.norm ⟨[(0,vS (bsO s)),(2,.bref 3 0),(4,vL eN (splS s)),(6,vI n),(8,.bref 9 0),(9,vI at0)],[(3,.box 119 [vI 0,vS (bsO []),vL eN [],vL eI [],vS (bsO [])]),(9,.box 119 [vI 0,vS (bsO (List.getD (splS s) 0 [])),vL eN ns,vL eI vs,vS (bsO [])])]⟩ (sb rfl rfl rfl) ?_
   refine kc (E rfl (B.lenL rfl un73) (Cp rfl rfl (fun h6=>?_) (fun h6=>?_)))
   ·have hof:=off_txt hn (by omega)
    refine E rfl (B.add rfl rfl (by unfold R64;omega)) (E rfl (B.slLB (a:=s) (i:=(at0+1)) rfl rfl un9 (by omega) (by omega)) (E rfl (B.seqB (a:=(List.drop (at0+1) s)) (b:=[]) rfl rfl) (Cp rfl rfl (fun h7=>?_) (fun h7=>?_))))
    ·have hq:=rr_nil hn hb hov (by omega) (txt_at hn hat) h7
     exact E rfl (B.runZ (val:=.pv (.agg [pI 0,pS (bsO []),pL eN [],pL eI [],pS (bsO [])])) rfl (fun l=>Frz.aggN l rfl) rfl) (Rt rfl (leaf (val0:=.tup [.pv (.agg [pI 0,pS (bsO []),pL eN [],pL eI [],pS (bsO [])]),vB false]) (by kernel_rfl) (tup2 (lag (lcons (pli (by rw[hq])) (lcons (pls (by rw[hq])) (lcons (plsl (by rw[hq])) (lcons (plsl (by rw[hq])) (lcons (pls (by rw[hq])) rfl)))))) (lb (by rw[hq])))))
    ·exact Rt rfl (leaf (val0:=.tup [.pv (.agg [pI 0,pS (bsO (List.getD (splS s) 0 [])),pL eN ns,pL eI vs,pS (bsO (List.drop (at0+1) s))]),vB true]) (by kernel_rfl) (tup2 (lag (lcons (pli (by rw[rr_txt hn hb hov (by omega) (txt_at hn hat) h7])) (lcons (pls (by rw[rr_txt hn hb hov (by omega) (txt_at hn hat) h7])) (lcons (plsl (by rw[rr_txt hn hb hov (by omega) (txt_at hn hat) h7])) (lcons (plsl (by rw[rr_txt hn hb hov (by omega) (txt_at hn hat) h7])) (lcons (pls (by rw[rr_txt hn hb hov (by omega) (txt_at hn hat) h7])) rfl)))))) (lb (by rw[rr_txt hn hb hov (by omega) (txt_at hn hat) h7]))))
   ·exact Rt rfl (leaf (val0:=.tup [.pv (.agg [pI 0,pS (bsO (List.getD (splS s) 0 [])),pL eN ns,pL eI vs,pS (bsO [])]),vB true]) (by kernel_rfl) (tup2 (lag (lcons (pli (by rw[rr_all hn hb hov (by omega)])) (lcons (pls (by rw[rr_all hn hb hov (by omega)])) (lcons (plsl (by rw[rr_all hn hb hov (by omega)])) (lcons (plsl (by rw[rr_all hn hb hov (by omega)])) (lcons (pls (by rw[rr_all hn hb hov (by omega)])) rfl)))))) (lb (by rw[rr_all hn hb hov (by omega)]))))
end Go.Lens.Tm
end
section
namespace Go.Lens.Tm
open Go.Lens.Tb Go.Proofs
set_option linter.unusedSectionVars false
variable [Lz]
theorem w117h (hp:PowLaid) (s:List UInt8) (hl:s.length≤1000000):CallOk Tryz.prog 117 [vS (bsO s),vS (bsO [32])] (lookM []) (.tup [vS (bsO (List.getD (splS s) 0 [])),vS (bsO (cut3 s 32).2.1),vB (cut3 s 32).2.2]) []:=by
 have:=w117 hp s 32 hl
 rwa [cut3_head] at this
theorem w280h (hp:PowLaid) (s:List UInt8) (n:Nat) (hl:s.length≤1000000):CallOk Tryz.prog 280 [vS (bsO s),vS (bsO [32]),vI (((n:Nat):Int)+1)] (lookM []) (vL eN (splN 32 n s)) []:=w280 hp s 32 (n+1) hl (by omega)
theorem splN_mem (c:UInt8):∀ (n:Nat) (s w:List UInt8),w∈splN c n s→w.length≤s.length
 | 0,s,w,h=>by
  have:w=s:=by simpa [splN] using h
  rw[this];exact Nat.le_refl _
 | n+1,s,w,h=>by
  by_cases hc:Lib.indexByte s c<0
  ·rw[splN_no _ hc] at h
   have:w=s:=by simpa using h
   rw[this];exact Nat.le_refl _
  ·rw[splN_at (m:=(Lib.indexByte s c).toNat) (by omega)] at h
   rcases List.mem_cons.1 h with rfl|h
   ·rw[List.length_take];omega
   ·have:=splN_mem c n _ w h
    rw[List.length_drop] at this;omega
theorem splN_wl {s:List UInt8} {n j:Nat} (h:j<(splN 32 n s).length):((splN 32 n s).getD j []).length≤s.length:=splN_mem 32 n s _ (getD_mem h)
section
variable {s:List UInt8} {L:List (List UInt8)} {f:List UInt8→Int×Bool} {n j:Nat} {ns:List (List UInt8)} {vs:List Int}
theorem pd_at (hj:j+1<n):((L.take n).drop 1).getD j []=L.getD (j+1) []:=by
 rw[List.getD_eq_getElem?_getD,List.getD_eq_getElem?_getD,List.getElem?_drop,List.getElem?_take,Nat.add_comm 1 j,if_pos hj]
variable (h:RdI s L f n (j+1) ns vs) (hn:n≤L.length)
include h hn
theorem pd_emp (hi:j+1<n) (he:((L.take n).drop 1).getD j []=[]):fillG f (aK (hdK s)) ((L.take n).drop 1) [] []=none:=rd_emp h hn hi (by rw[←pd_at hi];exact he)
theorem pd_nam (hi:j+1<n) (he:((L.take n).drop 1).getD j []≠[]) (ha:j+1≤aK (hdK s)):RdI s L f n (j+1+1) (ns++[((L.take n).drop 1).getD j []]) vs:=by
 rw[pd_at hi] at he ⊢;exact rd_nam h hn hi he ha
theorem pd_val (hi:j+1<n) (he:((L.take n).drop 1).getD j []≠[]) (ha:¬j+1≤aK (hdK s)) (hf:(f (((L.take n).drop 1).getD j [])).2=true):RdI s L f n (j+1+1) ns (vs++[(f (((L.take n).drop 1).getD j [])).1]):=by
 rw[pd_at hi] at he hf ⊢;exact rd_val h hn hi he ha hf
theorem pd_int (hi:j+1<n) (he:((L.take n).drop 1).getD j []≠[]) (ha:¬j+1≤aK (hdK s)) (hf:(f (((L.take n).drop 1).getD j [])).2=false):fillG f (aK (hdK s)) ((L.take n).drop 1) [] []=none:=by
 rw[pd_at hi] at he hf;exact rd_int h hn hi he ha hf
end
theorem pr_no {s:List UInt8} {a b:Int} (h:frmK (List.getD (splS s) 0 [])=(a,b,false)):readP s=(zV,false):=by
 unfold readP;rw[if_pos (show (frmK (hdK s)).2.2=false by rw[h])]
section
variable {s:List UInt8} {n:Nat} {a b:Int} (hn:n=nK (hdK s)) (h:frmK (List.getD (splS s) 0 [])=(a,b,true))
include hn h
theorem pr_len (hl:(splN 32 n s).length<n):readP s=(zV,false):=by
 subst hn;unfold readP;rw[if_neg (show ¬(frmK (hdK s)).2.2=false by rw[h];exact Bool.noConfusion),if_pos hl]
variable (hl:¬(splN 32 n s).length<n)
include hl
theorem pr_none (hf:fillG intV (aK (hdK s)) (((splN 32 n s).take n).drop 1) [] []=none):readP s=(zV,false):=by
 subst hn;unfold readP;rw[if_neg (show ¬(frmK (hdK s)).2.2=false by rw[h];exact Bool.noConfusion),if_neg hl,hf]
theorem pr_txt {r} (hf:fillG intV (aK (hdK s)) (((splN 32 n s).take n).drop 1) [] []=some r) (hg:n<(splN 32 n s).length):readP s=((0,hdK s,r.1,r.2,(splN 32 n s).getD n []),opK (hdK s)&&decide ((splN 32 n s).getD n []≠[])):=by
 subst hn;unfold readP;rw[if_neg (show ¬(frmK (hdK s)).2.2=false by rw[h];exact Bool.noConfusion),if_neg hl,hf];simp only[];rw[if_pos hg]
theorem pr_all {r} (hf:fillG intV (aK (hdK s)) (((splN 32 n s).take n).drop 1) [] []=some r) (hg:¬n<(splN 32 n s).length):readP s=((0,hdK s,r.1,r.2,[]),decide (hdK s≠kRun)):=by
 subst hn;unfold readP;rw[if_neg (show ¬(frmK (hdK s)).2.2=false by rw[h];exact Bool.noConfusion),if_neg hl,hf];simp only[];rw[if_neg hg]
end
theorem op_b (x y z:Bool):(bif (bif x then true else y) then z else false)=((x||y)&&z):=by cases x<;>cases y<;>rfl
end Go.Lens.Tm
end
section
namespace Go.Lens.Tm
open Go.Lens.Tb Go.Proofs
variable [Lz]
set_option linter.unusedSectionVars false
set_option maxHeartbeats 4000000
set_option maxRecDepth 100000
attribute [local irreducible] TK PK T RG EfR Body CG
theorem w212k (hp:PowLaid) (he:ErrLaid) (hm:OrcOk Tryz.prog (mergeO 121)) (s:List UInt8) (a b:Int) (z1 z2:PV) (hl:s.length≤1000000) (hf:findPV (pS (bsO (List.getD (splS s) 0 []))) kindsK kindsV=some (rowK a b z1 z2)) (hfr:frmK (List.getD (splS s) 0 [])=(a,b,true)):CallOk Tryz.prog 212 [vS (bsO s)] (lookM []) (.tup [.pv (.agg [pI (readP s).1.1,pS (bsO (readP s).1.2.1),pL eN (readP s).1.2.2.1,pL eI (readP s).1.2.2.2.1,pS (bsO (readP s).1.2.2.2.2)]),vB (readP s).2]) []:=by
 refine cG qf212 rfl (nB rfl) rfl ?_
 have hsp:=splS_pos s
 have hsl:=splS_len s
 have hrg:=frm_rng (List.getD (splS s) 0 [])
 have hnk:=nK_s s
 rw[hfr] at hrg hnk
 simp only[] at hrg hnk
 refine E rfl (B.runZ rfl (fun l=>Frz.boxN l rfl) rfl) (C rfl (w117h hp s hl) rfl rfl rfl (E rfl (B.callS (l:=[]) (w152 hp hm) rfl rfl trivial rfl rfl) (E rfl (B.lookK (z:=rowK 0 0 (.lit .nilFunc) (.lit .nilFunc)) rfl rfl rfl un256 un9 (by kernel_rfl) rfl (by kernel_rfl) hf) (Cb rfl rfl (fun h1=>?_) (fun h1=>?_)))))
 ·exact absurd h1 (by simp)
 ·refine E rfl (B.add rfl rfl (by unfold R64;omega)) (E rfl (B.add rfl rfl (by unfold R64;omega)) ?_)
  refine tk 6 rfl ?_
  refine tn ⟨[(0,vS (bsO s)),(2,.bref 3 0),(4,vS (bsO (List.getD (splS s) 0 []))),(7,.bref 8 0),(9,vI ((1+a)+b))],[(3,.box 119 [vI 0,vS (bsO []),vL eN [],vL eI [],vS (bsO [])]),(8,.box 254 [vI a,vI b,.pv (z1),.pv (z2)])]⟩ rfl rfl rfl ?_
  obtain⟨n,hn⟩:∃ n,n=nK (hdK s):=⟨_,rfl⟩
  rw[show ((1+a)+b)=(n:Int) by rw[hn,hnk.1]]
  refine kc (E rfl (B.add rfl rfl (by unfold R64;omega)) (C rfl (w280h hp s n hl) rfl rfl rfl (E rfl (B.lenL rfl un73) (Cp rfl rfl (fun h2=>?_) (fun h2=>?_)))))
  ·have hq:=pr_len hn hfr (by omega)
   exact E rfl (B.runZ (val:=.pv (.agg [pI 0,pS (bsO []),pL eN [],pL eI [],pS (bsO [])])) rfl (fun l=>Frz.aggN l rfl) rfl) (Rt rfl (leaf (val0:=.tup [.pv (.agg [pI 0,pS (bsO []),pL eN [],pL eI [],pS (bsO [])]),vB false]) (by kernel_rfl) (tup2 (lag (lcons (pli (by rw[hq])) (lcons (pls (by rw[hq])) (lcons (plsl (by rw[hq])) (lcons (plsl (by rw[hq])) (lcons (pls (by rw[hq])) rfl)))))) (lb (by rw[hq])))))
  ·refine E rfl (B.run rfl) (E rfl (B.runZ rfl (fun l=>Frz.boxN l rfl) rfl) ?_)
   refine tk 10 rfl ?_
   have hL:¬(splN 32 n s).length<n:=by omega
   have hnL:n≤(splN 32 n s).length:=by omega
   have hML:List.length (List.drop 1 (List.take n (splN 32 n s)))=n-1:=by rw[List.length_drop,List.length_take];omega
   refine TK.adoptC 12 2 401 1 9 rfl rfl rfl rfl ?_
   refine TK.adoptC 12 3 402 1 3 rfl rfl rfl rfl ?_
   refine TK.norm ⟨[(2,.bref 3 0),(4,vS (bsO (List.getD (splS s) 0 []))),(7,.bref 8 0),(9,vI n),(10,vL eN (splN 32 n s)),(11,.bref 12 0)],[(3,.box 119 [vI 0,vS (bsO []),vL eN [],vL eI [],vS (bsO [])]),(8,.box 254 [vI a,vI b,.pv (z1),.pv (z2)]),(12,.box 119 [vI 0,vS (bsO (List.getD (splS s) 0 [])),.aref 401 0,.aref 402 0,vS (bsO [])]),(401,.arr 0 1 9 (List.map eN [])),(402,.arr 0 1 3 (List.map eI []))]⟩ (sb rfl rfl rfl) ?_
   refine kc (E rfl (B.slTD (i:=1) (j:=n) rfl rfl rfl un73 sz9 (fun _=>rfl) rfl rfl (by omega) (by omega)) (E rfl (B.lenL rfl un73) (l5 (fun (j:Nat) (v1:Nat) (v2:Nat) (ns:List (List UInt8)) (vs:List Int)=>[(2,.bref 3 0),(4,vS (bsO (List.getD (splS s) 0 []))),(7,.bref 8 0),(9,vI n),(10,vL eN (splN 32 n s)),(11,.bref 12 0),(51,vL eN (List.drop 1 (List.take n (splN 32 n s)))),(52,vI ((List.length (List.drop 1 (List.take n (splN 32 n s))):Nat):Int)),(53,vI j)]) (fun _ v1 v2 ns vs=>[(3,.box 119 [vI 0,vS (bsO []),vL eN [],vL eI [],vS (bsO [])]),(8,.box 254 [vI a,vI b,.pv (z1),.pv (z2)]),(12,.box 119 [vI 0,vS (bsO (List.getD (splS s) 0 [])),.aref 401 v1,.aref 402 v2,vS (bsO [])]),(401,.arr v1 1 9 (List.map eN ns)),(402,.arr v2 1 3 (List.map eI vs))]) (fun j _ _ ns vs=>RdI s (splN 32 n s) intV n (j+1) ns vs) (fun j _ _ _ _=>n-j) 0 0 0 [] [] rfl ?_ (sb rfl rfl rfl) ?_)))
   · exact rd_start (by omega)
   intro j v1 v2 ns vs hI0
   have hi1:=hI0.1
   have hi2:=hI0.2.1
   have hi3:=hI0.2.2.1
   have hi4:=hI0.2.2.2.1
   refine Cp rfl rfl (fun h3=>?_) (fun h3=>?_)
   ·have hjM:j+1<n:=by omega
    refine E rfl (B.idx (z:=[]) (i:=j) rfl rfl un73 sz9 (fun _=>rfl) rfl (by omega)) (E rfl (B.seqB (a:=(List.getD (List.drop 1 (List.take n (splN 32 n s))) j [])) (b:=[]) rfl rfl) (Cp rfl rfl (fun h4=>?_) (fun h4=>?_)))
    ·have hq:=pr_none hn hfr hL (pd_emp hI0 hnL hjM h4)
     exact E rfl (B.runZ (val:=.pv (.agg [pI 0,pS (bsO []),pL eN [],pL eI [],pS (bsO [])])) rfl (fun l=>Frz.aggN l rfl) rfl) (Rt rfl (leaf (val0:=.tup [.pv (.agg [pI 0,pS (bsO []),pL eN [],pL eI [],pS (bsO [])]),vB false]) (by kernel_rfl) (tup2 (lag (lcons (pli (by rw[hq])) (lcons (pls (by rw[hq])) (lcons (plsl (by rw[hq])) (lcons (plsl (by rw[hq])) (lcons (pls (by rw[hq])) rfl)))))) (lb (by rw[hq])))))
    ·refine Cp rfl rfl (fun h5=>?_) (fun h5=>?_)
     ·refine E rfl (B.runZ (val:=.pv (.slice (List.map eN [(List.getD (List.drop 1 (List.take n (splN 32 n s))) j [])]))) rfl (fun l=>Frz.arr l _ _ _ _ _) rfl) (E rfl (B.append rfl rfl rfl un73 in9 rfl (fun _=>rfl) by9 (by (simp only[List.length_append,List.length_cons,List.length_nil];omega))) (E rfl (B.storeR rfl rfl rfl rfl sz73 rfl rfl) (E rfl (B.add rfl rfl (by unfold R64;omega)) (pk rfl (L5 (j+1) (v1+1) v2 (ns++[(List.getD (List.drop 1 (List.take n (splN 32 n s))) j [])]) vs ?_ ?_ (sb rfl rfl rfl))))))
      · exact pd_nam hI0 hnL hjM h4 (by omega)
      · omega
     ·have hwl:List.length (List.getD (List.drop 1 (List.take n (splN 32 n s))) j [])≤s.length:=by rw[pd_at hjM];exact splN_wl (by omega)
      refine C rfl (w186 hp he (List.getD (List.drop 1 (List.take n (splN 32 n s))) j []) (by omega)) rfl rfl rfl (Cb rfl rfl (fun h6=>?_) (fun h6=>?_))
      ·have hq:=pr_none hn hfr hL (pd_int hI0 hnL hjM h4 (by omega) (by simpa using h6))
       exact E rfl (B.runZ (val:=.pv (.agg [pI 0,pS (bsO []),pL eN [],pL eI [],pS (bsO [])])) rfl (fun l=>Frz.aggN l rfl) rfl) (Rt rfl (leaf (val0:=.tup [.pv (.agg [pI 0,pS (bsO []),pL eN [],pL eI [],pS (bsO [])]),vB false]) (by kernel_rfl) (tup2 (lag (lcons (pli (by rw[hq])) (lcons (pls (by rw[hq])) (lcons (plsl (by rw[hq])) (lcons (plsl (by rw[hq])) (lcons (pls (by rw[hq])) rfl)))))) (lb (by rw[hq])))))
      ·refine E rfl (B.runZ (val:=.pv (.slice (List.map eI [(intV (List.getD (List.drop 1 (List.take n (splN 32 n s))) j [])).1]))) rfl (fun l=>Frz.arr l _ _ _ _ _) rfl) (E rfl (B.append rfl rfl rfl un22 in3 rfl (fun _=>rfl) by3 (by (simp only[List.length_append,List.length_cons,List.length_nil];omega))) (E rfl (B.storeR rfl rfl rfl rfl sz22 rfl rfl) (E rfl (B.add rfl rfl (by unfold R64;omega)) (pk rfl (L5 (j+1) v1 (v2+1) ns (vs++[(intV (List.getD (List.drop 1 (List.take n (splN 32 n s))) j [])).1]) ?_ ?_ (sb rfl rfl rfl))))))
       · exact pd_val hI0 hnL hjM h4 (by omega) (by simpa using h6)
       · omega
   ·refine tk 22 rfl ?_
    have hov:=rd_over hI0 (by omega)
    refine TK.frzCC (h:=12) (h2:=401) (h3:=402) (cs:=[pI 0,pS (bsO (List.getD (splS s) 0 [])),pL eN ns,pL eI vs,pS (bsO [])]) rfl rfl rfl (by simp[pvOfL,pvOf,lookM]) ?_
    refine TK.norm ⟨[(2,.bref 3 0),(4,vS (bsO (List.getD (splS s) 0 []))),(9,vI n),(10,vL eN (splN 32 n s)),(11,.bref 12 0)],[(3,.box 119 [vI 0,vS (bsO []),vL eN [],vL eI [],vS (bsO [])]),(12,.box 119 [vI 0,vS (bsO (List.getD (splS s) 0 [])),vL eN ns,vL eI vs,vS (bsO [])])]⟩ (sb rfl rfl rfl) ?_
    refine kc (E rfl (B.seqB (a:=(List.getD (splS s) 0 [])) (b:=[114,117,110]) rfl rfl) (Eg rfl rfl (fun hc=>B.move rfl) rfl (Eg rfl rfl (fun hc=>B.seqB (a:=(List.getD (splS s) 0 [])) (b:=[99,97,108,105,98,114,97,116,101]) (ev1_gd rfl hc) rfl) rfl (E rfl (B.pick rfl rfl rfl rfl (gdB rfl) (pick_or _)) (E rfl (B.lenL rfl un73) (Cp rfl rfl (fun h7=>?_) (fun h7=>?_)))))))
    ·exact E rfl (B.idx (z:=[]) (i:=n) rfl rfl un73 sz9 (fun _=>rfl) rfl (by omega)) (Eg rfl rfl (fun hc=>B.fadB rfl fa119_4 rfl) rfl (Eg rfl rfl (fun hc=>B.loadB (ev1_gd rfl hc) rfl rfl ag9 sz9 rfl) rfl (Eg rfl rfl (fun hc=>B.sneB (a:=(List.getD (splN 32 n s) n [])) (b:=[]) (ev1_gd rfl hc) rfl) rfl (E rfl (B.pick rfl rfl rfl (gdB rfl) rfl (pick_and _)) (Dr rfl (by kernel_rfl) (Rt rfl (leaf (val0:=.tup [.pv (.agg [pI 0,pS (bsO (List.getD (splS s) 0 [])),pL eN ns,pL eI vs,pS (bsO (List.getD (splN 32 n s) n []))]),vB (bif (bif (decide ((List.getD (splS s) 0 [])=[114,117,110])) then true else (decide ((List.getD (splS s) 0 [])=[99,97,108,105,98,114,97,116,101]))) then (decide ((List.getD (splN 32 n s) n [])≠[])) else false)]) (by kernel_rfl) (tup2 (lag (lcons (pli (by rw[pr_txt hn hfr hL hov (by omega)])) (lcons (pls (by rw[pr_txt hn hfr hL hov (by omega)])) (lcons (plsl (by rw[pr_txt hn hfr hL hov (by omega)])) (lcons (plsl (by rw[pr_txt hn hfr hL hov (by omega)])) (lcons (pls (by rw[pr_txt hn hfr hL hov (by omega)])) rfl)))))) (lb (by (rw[pr_txt hn hfr hL hov (by omega)];exact op_b _ _ _)))))))))))
    ·exact E rfl (B.sneB (a:=(List.getD (splS s) 0 [])) (b:=[114,117,110]) rfl rfl) (Rt rfl (leaf (val0:=.tup [.pv (.agg [pI 0,pS (bsO (List.getD (splS s) 0 [])),pL eN ns,pL eI vs,pS (bsO [])]),vB (decide ((List.getD (splS s) 0 [])≠[114,117,110]))]) (by kernel_rfl) (tup2 (lag (lcons (pli (by rw[pr_all hn hfr hL hov (by omega)])) (lcons (pls (by rw[pr_all hn hfr hL hov (by omega)])) (lcons (plsl (by rw[pr_all hn hfr hL hov (by omega)])) (lcons (plsl (by rw[pr_all hn hfr hL hov (by omega)])) (lcons (pls (by rw[pr_all hn hfr hL hov (by omega)])) rfl)))))) (lb (by rw[pr_all hn hfr hL hov (by omega)])))))
theorem w212n (hp:PowLaid) (he:ErrLaid) (hm:OrcOk Tryz.prog (mergeO 121)) (s:List UInt8) (hl:s.length≤1000000) (hf:findPV (pS (bsO (List.getD (splS s) 0 []))) kindsK kindsV=none) (hfr:frmK (List.getD (splS s) 0 [])=(0,0,false)):CallOk Tryz.prog 212 [vS (bsO s)] (lookM []) (.tup [.pv (.agg [pI (readP s).1.1,pS (bsO (readP s).1.2.1),pL eN (readP s).1.2.2.1,pL eI (readP s).1.2.2.2.1,pS (bsO (readP s).1.2.2.2.2)]),vB (readP s).2]) []:=by
 refine cG qf212 rfl (nB rfl) rfl (E rfl (B.runZ rfl (fun l=>Frz.boxN l rfl) rfl) (C rfl (w117h hp s hl) rfl rfl rfl (E rfl (B.callS (l:=[]) (w152 hp hm) rfl rfl trivial rfl rfl) (E rfl (B.lookK (z:=rowK 0 0 (.lit .nilFunc) (.lit .nilFunc)) rfl rfl rfl un256 un9 (by kernel_rfl) rfl (by kernel_rfl) hf) (Cb rfl rfl (fun h1=>?_) (fun h1=>?_))))))
 ·exact E rfl (B.runZ (val:=.pv (.agg [pI 0,pS (bsO []),pL eN [],pL eI [],pS (bsO [])])) rfl (fun l=>Frz.aggN l rfl) rfl) (Rt rfl (leaf (val0:=.tup [.pv (.agg [pI 0,pS (bsO []),pL eN [],pL eI [],pS (bsO [])]),vB false]) (by kernel_rfl) (tup2 (lag (lcons (pli (by rw[pr_no hfr])) (lcons (pls (by rw[pr_no hfr])) (lcons (plsl (by rw[pr_no hfr])) (lcons (plsl (by rw[pr_no hfr])) (lcons (pls (by rw[pr_no hfr])) rfl)))))) (lb (by rw[pr_no hfr])))))
 ·exact absurd h1 (by simp)
end Go.Lens.Tm
end
section
namespace Go.Lens.Tm
open Go.Lens.Tb Go.Proofs
set_option linter.unusedSectionVars false
variable [Lz]
theorem w212 (hp:PowLaid) (he:ErrLaid) (hm:OrcOk Tryz.prog (mergeO 121)) (s:List UInt8) (hl:s.length≤1000000):CallOk Tryz.prog 212 [vS (bsO s)] (lookM []) (.tup [.pv (gV (readP s).1),vB (readP s).2]) []:=by
 by_cases h0:hdK s=kTar
 ·exact w212k hp he hm s 1 7 (fK 204) (fK 205) hl (by rw[find_k,if_pos h0]) (frm_t h0)
 by_cases h1:hdK s=kAct
 ·exact w212k hp he hm s 1 1 (fK 204) (fK 206) hl (by rw[find_k,if_neg h0,if_pos h1]) (frm_a h0 h1)
 by_cases h2:hdK s=kObs
 ·exact w212k hp he hm s 1 1 (fK 204) (fK 209) hl (by rw[find_k,if_neg h0,if_neg h1,if_neg (by rw[show List.getD (splS s) 0 []=kObs from h2];decide),if_pos h2]) (frm_o h0 h1 h2)
 by_cases h3:hdK s=kRun
 ·exact w212k hp he hm s 0 1 (fK 207) (fK 208) hl (by rw[find_k,if_neg h0,if_neg h1,if_pos h3]) (frm_r h0 h1 h2 h3)
 by_cases h4:hdK s=kCal
 ·exact w212k hp he hm s 1 2 (fK 210) (fK 211) hl (by rw[find_k,if_neg h0,if_neg h1,if_neg h3,if_neg h2,if_pos h4]) (frm_c h0 h1 h2 h3 h4)
 by_cases h5:hdK s=kUnd
 ·exact w212k hp he hm s 0 0 (fK 204) (.lit .nilFunc) hl (by rw[find_k,if_neg h0,if_neg h1,if_neg h3,if_neg h2,if_neg h4,if_pos h5]) (frm_u h0 h1 h2 h3 h4 h5)
 ·exact w212n hp he hm s hl (by rw[find_k,if_neg h0,if_neg h1,if_neg h3,if_neg h2,if_neg h4,if_neg h5]) (frm_n h0 h1 h2 h3 h4 h5)
end Go.Lens.Tm
end
section
namespace Go.Lens.Tm
open Go.Lens.Tb Go.Proofs
set_option linter.unusedSectionVars false
variable [Lz]
theorem intV_itoa2 {w:List UInt8} (h:(intV w).2=true):Lib.itoa (intV w).1=w∧0≤(intV w).1∧(intV w).1≤999999999:=by
 unfold intV at h ⊢
 cases hq:Lib.atoiAll w with
 | ok v=>
  rw[hq] at h
  have h2:(0≤v∧v≤999999999∧Lib.itoa v=w):=of_decide_eq_true h
  exact⟨h2.2.2,h2.1,h2.2.1⟩
 | _=>rw[hq] at h;cases h
theorem tlW_app (a b:List (List UInt8)):tlW (a++b)=tlW a++tlW b:=by unfold tlW;rw[List.flatMap_append]
theorem fill_tl (a:Nat):∀ (ws ns:List (List UInt8)) (vs:List Int) (r:List (List UInt8)×List Int),(ns.length<a→vs=[])→fillG intV a ws ns vs=some r→tlW (r.1++r.2.map Lib.itoa)=tlW (ns++vs.map Lib.itoa)++tlW ws
 | [],ns,vs,r,_,h=>by
  rw[fillG,Option.some.injEq] at h
  subst h
  simp[tlW]
 | w::ws,ns,vs,r,hv,h=>by
  rw[fillG] at h
  split at h
  ·cases h
  split at h
  ·rename_i hl
   have e:=hv hl
   subst e
   rw[fill_tl a ws (ns++[w]) [] r (fun _=>rfl) h]
   simp[tlW]
  ·rename_i hl
   split at h
   ·rename_i hi
    rw[fill_tl a ws ns _ r (fun hh=>absurd hh hl) h]
    have:=(intV_itoa2 hi).1
    simp[tlW,this]
   ·cases h
theorem ix_split {s:List UInt8} {c:UInt8} {m:Nat} (h:Lib.indexByte s c=(m:Int)):s=s.take m++c::s.drop (m+1):=by
 obtain⟨m2,hm,h1,h2,_⟩:=ix_nat (show 0≤Lib.indexByte s c by omega)
 have e:m2=m:=by omega
 subst e
 have h3:s.drop m2=c::s.drop (m2+1):=by
  rw[List.drop_eq_getElem_cons h1]
  congr 1
  rw[List.getD_eq_getElem?_getD,List.getElem?_eq_getElem h1] at h2
  exact h2
 rw[←h3,List.take_append_drop]
theorem splN_tl:∀ (n:Nat) (s:List UInt8),tlW (splN 32 n s)=32::s
 | 0,s=>by simp[splN,tlW]
 | n+1,s=>by
  by_cases h:Lib.indexByte s 32<0
  ·rw[splN_no _ h];simp[tlW]
  ·obtain⟨m,hm⟩:∃ m:Nat,Lib.indexByte s 32=(m:Int):=⟨(Lib.indexByte s 32).toNat,by omega⟩
   rw[splN_at hm]
   show 32::s.take m++tlW (splN 32 n (s.drop (m+1)))=_
   rw[splN_tl n]
   have:=ix_split hm
   rw[List.cons_append,←this]
theorem wr_tl (n:Int) (k:List UInt8) (ns:List (List UInt8)) (vs:List Int) (t:List UInt8):tlW (wrdW (n,k,ns,vs,t))=(32::k)++(tlW (ns++vs.map Lib.itoa)++tlW (if t=[] then [] else [t])):=by
 show tlW (((([k]:List (List UInt8))++ns)++vs.map Lib.itoa)++(if t=[] then [] else [t]))=_
 rw[tlW_app,List.append_assoc,tlW_app,List.append_assoc]
 show (32::k++[])++_=_
 rw[List.append_nil]
theorem tl_cons (k:List UInt8) (l:List (List UInt8)):tlW (k::l)=(32::k)++tlW l:=rfl
theorem read_tl {s:List UInt8} (h:(readP s).2=true):tlW (wrdW (readP s).1)=32::s:=by
 obtain⟨h1,h2,h3,h4⟩:=splN_cut 32 (nK (hdK s)) s
 rw[splC_32] at h1 h2 h3 h4
 replace h2:(spP s).length=_:=h2
 have hz:=splN_tl (nK (hdK s)) s
 have hn:=(nK_s s).2.2.2
 have h0:(spP s).getD 0 []=hdK s:=by
  have e:((spP s).take (nK (hdK s))).getD 0 []=((splS s).take (nK (hdK s))).getD 0 []:=congrArg (fun l=>List.getD l 0 []) h1
  rwa [List.getD_eq_getElem?_getD,List.getD_eq_getElem?_getD,List.getElem?_take_of_lt (by omega),List.getElem?_take_of_lt (by omega),←List.getD_eq_getElem?_getD,←List.getD_eq_getElem?_getD] at e
 have hp:spP s=hdK s::(spP s).drop 1:=by
  cases hs:spP s with
  | nil=>rw[hs] at h2;simp at h2;omega
  | cons x l=>rw[hs] at h0;rw[←h0];rfl
 have hd:(spP s).drop 1=((spP s).take (nK (hdK s))).drop 1++(spP s).drop (nK (hdK s)):=by
  have e:=List.take_append_drop (nK (hdK s)) (spP s)
  have e2:=congrArg (List.drop 1) e
  rw[List.drop_append_of_le_length (by rw[List.length_take];omega)] at e2
  exact e2.symm
 unfold readP at h ⊢
 by_cases hk:(frmK (hdK s)).2.2=false
 ·rw[if_pos hk] at h;cases h
 rw[if_neg hk] at h ⊢
 by_cases hl:(spP s).length<nK (hdK s)
 ·rw[if_pos hl] at h;cases h
 rw[if_neg hl] at h ⊢
 cases hf:fillG intV (aK (hdK s)) (((spP s).take (nK (hdK s))).drop 1) [] [] with
 | none=>rw[hf] at h;cases h
 | some r=>
  rw[hf] at h
  simp only[] at h ⊢
  have hfl:=fill_tl _ _ _ _ _ (fun _=>rfl) hf
  by_cases hg:nK (hdK s)<(spP s).length
  ·rw[if_pos hg] at h ⊢
   have ht:(spP s).getD (nK (hdK s)) []≠[]:=by
    have:=(Bool.and_eq_true_iff.1 h).2
    exact of_decide_eq_true this
   have hdr:(spP s).drop (nK (hdK s))=[(spP s).getD (nK (hdK s)) []]:=by
    rw[List.drop_eq_getElem_cons hg,List.drop_eq_nil_of_le (by omega),List.getD_eq_getElem?_getD,List.getElem?_eq_getElem hg];rfl
   show tlW (wrdW (0,hdK s,r.1,r.2,(spP s).getD (nK (hdK s)) []))=32::s
   rw[←hz]
   show _=tlW (spP s)
   rw[wr_tl,if_neg ht,hfl,←hdr]
   show _++(tlW []++_++_)=_
   rw[List.append_assoc,←tlW_app,←hd]
   show _++tlW _=_
   rw[←tl_cons,←hp]
  ·rw[if_neg hg] at h ⊢
   have hdr:(spP s).drop (nK (hdK s))=[]:=List.drop_eq_nil_of_le (by omega)
   show tlW (wrdW (0,hdK s,r.1,r.2,[]))=32::s
   rw[←hz]
   show _=tlW (spP s)
   have hd2:(spP s).drop 1=((spP s).take (nK (hdK s))).drop 1:=hd.trans (by rw[hdr,List.append_nil])
   rw[wr_tl,if_pos rfl,hfl,←hd2]
   show _++([]++tlW _++[])=_
   rw[List.nil_append,List.append_nil,←tl_cons,←hp]
theorem cut3_split {s:List UInt8} (h:(cut3 s 32).2.2=true):s=(cut3 s 32).1++32::(cut3 s 32).2.1:=by
 by_cases hc:Lib.indexByte s 32<0
 ·rw[cut3_no (by omega)] at h;cases h
 ·obtain⟨m,hm⟩:∃ m:Nat,Lib.indexByte s 32=(m:Int):=⟨(Lib.indexByte s 32).toNat,by omega⟩
  rw[cut3_yes hm]
  exact ix_split hm
theorem readP_nil:(readP []).2=false:=by
 unfold readP
 rw[if_pos (by decide)]
def evE (s:List UInt8):Ev:=((intV (cut3 s 32).1).1,(readP (cut3 s 32).2.1).1.2)
def evP (s:List UInt8):Bool:=(intV (cut3 s 32).1).2&&((readP (cut3 s 32).2.1).2&&decide (chkE (evE s)=0))
theorem ev_body {s:List UInt8} (h1:(intV (cut3 s 32).1).2=true) (h2:(readP (cut3 s 32).2.1).2=true):bodyE (evE s)=s:=by
 have hc:(cut3 s 32).2.2=true:=by
  by_cases hc:Lib.indexByte s 32<0
  ·rw[cut3_no (by omega)] at h2
   rw[readP_nil] at h2;cases h2
  ·rw[cut3_yes (n:=(Lib.indexByte s 32).toNat) (by omega)]
 have e:=cut3_split hc
 have r:=read_tl h2
 show Lib.itoa (intV (cut3 s 32).1).1++tlW (wrdW (evE s))=s
 have hw:wrdW (evE s)=wrdW (readP (cut3 s 32).2.1).1:=rfl
 rw[(intV_itoa2 h1).1,hw,r,←e]
end Go.Lens.Tm
end
section
namespace Go.Lens.Tm
open Go.Lens.Tb Go.Proofs
set_option linter.unusedSectionVars false
variable [Lz]
theorem fill_len {f:List UInt8→Int×Bool} (a:Nat):∀ (ws ns:List (List UInt8)) (vs:List Int) (r:List (List UInt8)×List Int),fillG f a ws ns vs=some r→r.1.length≤ns.length+ws.length∧r.2.length≤vs.length+ws.length
 | [],ns,vs,r,h=>by
  rw[fillG,Option.some.injEq] at h
  subst h
  simp
 | w::ws,ns,vs,r,h=>by
  rw[fillG] at h
  split at h
  ·cases h
  split at h
  ·have:=fill_len a ws _ _ r h
   simp only[List.length_append,List.length_cons,List.length_nil] at this ⊢
   omega
  split at h
  ·have:=fill_len a ws _ _ r h
   simp only[List.length_append,List.length_cons,List.length_nil] at this ⊢
   omega
  ·cases h
theorem readP_len (s:List UInt8):(readP s).1.2.2.1.length≤10∧(readP s).1.2.2.2.1.length≤10∧(readP s).1.2.2.2.2.length≤s.length:=by
 have hn:=(nK_s s).2.2.1
 unfold readP
 split
 ·simp
 split
 ·simp
 split
 ·simp
 ·rename_i r hf
  have h1:=fill_len _ _ _ _ _ hf
  rw[List.length_drop,List.length_take] at h1
  simp only[List.length_nil] at h1
  split
  ·rename_i hg
   have h2:((spP s).getD (nK (hdK s)) []).length≤s.length:=splN_wl hg
   exact⟨by show r.1.length≤10;omega,by show r.2.length≤10;omega,h2⟩
  ·exact⟨by show r.1.length≤10;omega,by show r.2.length≤10;omega,by simp⟩
theorem cut3_hl (s:List UInt8):(cut3 s 32).1.length≤s.length:=by
 unfold cut3
 split
 ·exact Nat.le_refl _
 ·show (s.take _).length≤_;rw[List.length_take];omega
theorem evE_len (s:List UInt8):(evE s).2.2.1.length≤10∧(evE s).2.2.2.1.length≤10∧(evE s).2.2.2.2.length≤s.length:=by
 have h:=readP_len (cut3 s 32).2.1
 have h2:=cut3_len s 32
 exact⟨h.1,h.2.1,Nat.le_trans h.2.2 h2⟩
theorem g3 {x y z:Bool} (h:(bif (bif x then y else false) then z else false)=true):x=true∧y=true∧z=true:=by
 revert h;cases x<;>cases y<;>cases z<;>decide
theorem ev_b (s:List UInt8):(bif (bif (bif (intV (cut3 s 32).1).2 then (readP (cut3 s 32).2.1).2 else false) then decide (chkE (evE s)=0) else false) then decide (bodyE (evE s)=s) else false)=evP s:=by
 unfold evP
 cases h1:(intV (cut3 s 32).1).2
 ·rfl
 cases h2:(readP (cut3 s 32).2.1).2
 ·rfl
 rw[decide_eq_true (ev_body h1 h2)]
 cases decide (chkE (evE s)=0)<;>rfl
end Go.Lens.Tm
end
section
namespace Go.Lens.Tm
open Go.Lens.Tb Go.Proofs
variable [Lz]
set_option linter.unusedSectionVars false
set_option maxRecDepth 100000
attribute [local irreducible] TK PK T RG EfR Body CG
set_option maxHeartbeats 4000000 in
theorem w193 (hp:PowLaid) (he:ErrLaid) (hm:OrcOk Tryz.prog (mergeO 121)) (hj:JoinOk) (hj2:Join2Ok) (hjw:JoinW) (s:List UInt8) (hl:s.length≤4000):CallOk Tryz.prog 193 [vS (bsO s)] (lookM []) (.tup [.pv (.agg [pI (evE s).1,pS (bsO (evE s).2.1),pL eN (evE s).2.2.1,pL eI (evE s).2.2.2.1,pS (bsO (evE s).2.2.2.2)]),vB (evP s)]) []:=by
 refine cG qf193 rfl (nB rfl) rfl ?_
 have hc1:=cut3_hl s
 have hc2:=cut3_len s 32
 obtain⟨he1,he2,he3⟩:=evE_len s
 refine E rfl (B.runZ rfl (fun l=>Frz.boxN l rfl) rfl) (C rfl (w117 hp s 32 (by omega)) rfl rfl rfl (C rfl (w186 hp he (cut3 s 32).1 (by omega)) rfl rfl rfl (C rfl (w212 hp he hm (cut3 s 32).2.1 (by omega)) rfl rfl rfl (E rfl (B.runZ rfl (fun l=>Frz.boxN l rfl) rfl) (Eg rfl rfl (fun hc=>B.move rfl) rfl (E rfl (B.pick rfl rfl rfl (gdB rfl) rfl (pick_and _)) (Eg rfl rfl (fun hc=>B.loadBA rfl rfl rfl ag119 sz119 rfl rfl) rfl (Eg rfl rfl (fun hc=>B.call (w81 hp he hm hj hj2 (evE s) (by omega) (by omega) (by omega)) rfl (ds1 (ev1_gd rfl hc)) rfl) rfl (Eg rfl rfl (fun hc=>B.eql (ev1_gd rfl hc) rfl) rfl (E rfl (B.pick rfl rfl rfl (gdB rfl) rfl (pick_and _)) (Eg rfl rfl (fun hc=>B.loadBA rfl rfl rfl ag119 sz119 rfl rfl) rfl (Eg rfl rfl (fun hc=>B.call (w190 hp hjw (evE s) (okE_of (of_decide_eq_true (g3 (eqt hc)).2.2)) (by omega)) rfl (ds1 (ev1_gd rfl hc)) rfl) rfl (Eg rfl rfl (fun hc=>B.move rfl) rfl ?_)))))))))))))
 exact Eg rfl rfl (fun hc=>B.seqB (a:=(bodyE (evE s))) (b:=s) (ev1_gd rfl hc) (ev1_gd rfl hc)) rfl (E rfl (B.pick rfl rfl rfl (gdB rfl) rfl (pick_and _)) (Dr rfl (by kernel_rfl) (Rt rfl (leaf (val0:=.tup [.pv (.agg [pI (evE s).1,pS (bsO (evE s).2.1),pL eN (evE s).2.2.1,pL eI (evE s).2.2.2.1,pS (bsO (evE s).2.2.2.2)]),vB (bif (bif (bif (intV (cut3 s 32).1).2 then (readP (cut3 s 32).2.1).2 else false) then (decide ((chkE (evE s))=0)) else false) then (decide ((bodyE (evE s))=s)) else false)]) (by kernel_rfl) (tup2 (rfl) (lb (by exact ev_b s)))))))
end Go.Lens.Tm
end
section
namespace Go.Lens.Tm
open Go.Lens.Tb Go.Proofs
set_option linter.unusedSectionVars false
variable [Lz]
theorem cut3_two (t:List UInt8):((cut3 t 32).2.2=decide (¬(((splS t).length:Nat):Int)<2))∧(2≤(splS t).length→(cut3 t 32).2.1=t.drop (((splS t).getD 0 []).length+1)):=by
 rw[←splC_32]
 by_cases hc:Lib.indexByte t 32<0
 ·rw[cut3_no (by omega),splC_no hc]
  exact⟨by simp,fun h=>by simp at h⟩
 ·obtain⟨m,hm⟩:∃ m:Nat,Lib.indexByte t 32=(m:Int):=⟨(Lib.indexByte t 32).toNat,by omega⟩
  obtain⟨e,hl⟩:=splC_at hm
  have h1:=(splN_cut 32 0 (t.drop (m+1))).2.2.1
  rw[cut3_yes hm,e]
  refine⟨by simp only[List.length_cons];exact (decide_eq_true (by omega)).symm,fun _=>?_⟩
  show t.drop (m+1)=t.drop ((t.take m).length+1)
  rw[List.length_take,Nat.min_eq_left (by omega)]
theorem readR_len (s:List UInt8):(readR s).1.2.2.1.length≤10∧(readR s).1.2.2.2.1.length≤10∧(readR s).1.2.2.2.2.length≤s.length:=by
 have hn:=(nK_s s).2.2.1
 unfold readR
 split
 ·simp
 split
 ·simp
 ·rename_i r hf
  have h1:=fill_len _ _ _ _ _ hf
  rw[List.length_drop,List.length_take] at h1
  simp only[List.length_nil] at h1
  split
  ·split
   ·simp
   ·exact⟨by show r.1.length≤10;omega,by show r.2.length≤10;omega,by show (txtK s).length≤_;unfold txtK;rw[List.length_drop];omega⟩
  ·exact⟨by show r.1.length≤10;omega,by show r.2.length≤10;omega,by simp⟩
def evR (t:List UInt8):Ev:=((intR (cut3 t 32).1).getD 0,(readR (cut3 t 32).2.1).1.2)
def okR (t:List UInt8):Bool:=(intR (cut3 t 32).1).isSome&&((cut3 t 32).2.2&&((readR (cut3 t 32).2.1).2&&decide (chkE (evR t)=0)))
def sgR (s:List UInt8):Int:=if s.length<8 then 25 else if byteAt (bsO s) (s.length-8)≠35 then 25 else if digB (s.drop (s.length-8+1))=false then 25 else if s.drop (s.length-8+1)≠sumS (s.take (s.length-8)) then 27 else 0
abbrev txR (s:List UInt8):List UInt8:=s.take (s.length-8)
def recR (s:List UInt8):Ev×Int:=if sgR s≠0 then (zV,sgR s) else if okR (txR s)=true then (evR (txR s),0) else (zV,25)
theorem evR_len (t:List UInt8):(evR t).2.2.1.length≤10∧(evR t).2.2.2.1.length≤10∧(evR t).2.2.2.2.length≤t.length:=by
 have h:=readR_len (cut3 t 32).2.1
 have h2:=cut3_len t 32
 exact⟨h.1,h.2.1,Nat.le_trans h.2.2 h2⟩
theorem ok_same (t:List UInt8):okR t=evP t∧(evP t=true→evR t=evE t):=by
 obtain⟨i1,i2⟩:=int_same (cut3 t 32).1
 obtain⟨r1,r2⟩:=read_same (cut3 t 32).2.1
 have he:(intV (cut3 t 32).1).2=true→(readP (cut3 t 32).2.1).2=true→evR t=evE t:=by
  intro h1 h2
  rw[i1] at h1;rw[r1] at h2
  unfold evR evE
  rw[i2 h1,r2 h2]
 unfold okR evP
 constructor
 ·rw[←i1,←r1]
  cases h1:(intV (cut3 t 32).1).2
  ·rfl
  cases h2:(readP (cut3 t 32).2.1).2
  ·simp
  rw[he h1 h2]
  have hc:(cut3 t 32).2.2=true:=by
   by_cases hc:Lib.indexByte t 32<0
   ·rw[cut3_no (by omega),readP_nil] at h2;cases h2
   ·rw[cut3_yes (n:=(Lib.indexByte t 32).toNat) (by omega)]
  rw[hc];simp
 ·intro h
  rw[Bool.and_eq_true,Bool.and_eq_true] at h
  exact he h.1 h.2.1
section
variable {s t:List UInt8} {m:Nat}
theorem sg_25 (h:(bif (bif (decide ((((List.length s:Nat):Int)-8)<0)) then true else (decide ((byteAt (bsO s) (Int.toNat (((List.length s:Nat):Int)-8)))≠35))) then true else (!(digB (List.drop (Int.toNat ((((List.length s:Nat):Int)-8)+1)) s))))=true):recR s=(zV,25):=by
 have hs:sgR s=25:=by
  unfold sgR
  by_cases h0:s.length<8
  ·rw[if_pos h0]
  rw[if_neg h0]
  rw[decide_eq_false (by omega),show Int.toNat (((List.length s:Nat):Int)-8)=s.length-8 by omega,show Int.toNat ((((List.length s:Nat):Int)-8)+1)=s.length-8+1 by omega] at h
  by_cases h1:byteAt (bsO s) (s.length-8)≠35
  ·rw[if_pos h1]
  rw[if_neg h1,decide_eq_false h1] at*
  rw[if_pos (by simpa using h)]
 unfold recR;rw[hs];rfl
theorem sg_ok (h:(bif (bif (decide ((((List.length s:Nat):Int)-8)<0)) then true else (decide ((byteAt (bsO s) (Int.toNat (((List.length s:Nat):Int)-8)))≠35))) then true else (!(digB (List.drop (Int.toNat ((((List.length s:Nat):Int)-8)+1)) s))))=false):¬s.length<8∧sgR s=if s.drop (s.length-8+1)≠sumS (txR s) then 27 else 0:=by
 by_cases h0:s.length<8
 ·rw[decide_eq_true (by omega)] at h;cases h
 refine⟨h0,?_⟩
 unfold sgR
 rw[if_neg h0]
 rw[decide_eq_false (by omega),show Int.toNat (((List.length s:Nat):Int)-8)=s.length-8 by omega,show Int.toNat ((((List.length s:Nat):Int)-8)+1)=s.length-8+1 by omega] at h
 by_cases h1:byteAt (bsO s) (s.length-8)≠35
 ·rw[decide_eq_true h1] at h;cases h
 rw[decide_eq_false h1] at h
 rw[if_neg h1,if_neg (by revert h;cases digB (List.drop (s.length-8+1) s)<;>decide)]
variable (hm:m=s.length-8) (ht:t=List.take m s) (hsg:sgR s=if s.drop (s.length-8+1)≠sumS (txR s) then 27 else 0)
include hm ht hsg
theorem rec_27 (h2:List.drop (m+1) s≠sumS t):recR s=(zV,27):=by
 subst ht;subst hm
 unfold recR;rw[hsg,if_pos h2];rfl
theorem rec_go (h2:¬List.drop (m+1) s≠sumS t):recR s=if okR t=true then (evR t,0) else (zV,25):=by
 subst ht;subst hm
 unfold recR;rw[hsg,if_neg h2];rfl
end
section
variable {t:List UInt8}
theorem ok_no1 (h:(bif (!(Option.isSome (intR (List.getD (splS t) 0 [])))) then true else (decide (((List.length (splS t):Nat):Int)<2)))=true):okR t=false:=by
 unfold okR
 rw[cut3_head,(cut3_two t).1,decide_not]
 revert h
 cases (intR (List.getD (splS t) 0 [])).isSome<;>cases decide (((List.length (splS t):Nat):Int)<2)<;>simp
theorem ok_go1 (h:(bif (!(Option.isSome (intR (List.getD (splS t) 0 [])))) then true else (decide (((List.length (splS t):Nat):Int)<2)))=false):(intR (cut3 t 32).1).isSome=true∧(cut3 t 32).2.2=true∧2≤(splS t).length∧((splS t).getD 0 []).length+1≤t.length:=by
 have hw:2≤(splS t).length:=by
  by_cases h0:((List.length (splS t):Nat):Int)<2
  ·rw[decide_eq_true h0] at h
   revert h
   cases (intR (List.getD (splS t) 0 [])).isSome<;>simp
  ·omega
 refine⟨?_,by rw[(cut3_two t).1];exact decide_eq_true (by omega),hw,?_⟩
 ·rw[cut3_head]
  revert h
  cases (intR (List.getD (splS t) 0 [])).isSome<;>simp
 ·have hc:(cut3 t 32).2.2=true:=by rw[(cut3_two t).1];exact decide_eq_true (by omega)
  have e:=congrArg List.length (cut3_split hc)
  rw[cut3_head,List.length_append,List.length_cons] at e
  omega
theorem ok_no2 (h:(bif (!(readR (cut3 t 32).2.1).2) then true else decide (chkE (evR t)≠0))=true):okR t=false:=by
 unfold okR
 revert h
 by_cases hk:chkE (evR t)=0
 ·rw[decide_eq_true hk,decide_eq_false (by simpa using hk)]
  cases (intR (cut3 t 32).1).isSome<;>cases (cut3 t 32).2.2<;>cases (readR (cut3 t 32).2.1).2<;>simp
 ·rw[decide_eq_false hk];simp
theorem ok_yes (h1:(intR (cut3 t 32).1).isSome=true) (h2:(cut3 t 32).2.2=true) (h:(bif (!(readR (cut3 t 32).2.1).2) then true else decide (chkE (evR t)≠0))=false):okR t=true:=by
 unfold okR
 rw[h1,h2]
 revert h
 by_cases hk:chkE (evR t)=0
 ·rw[decide_eq_true hk,decide_eq_false (by simpa using hk)]
  cases (readR (cut3 t 32).2.1).2<;>simp
 ·rw[decide_eq_true (p:=chkE (evR t)≠0) hk]
  cases (readR (cut3 t 32).2.1).2<;>simp
end
end Go.Lens.Tm
end
section
namespace Go.Lens.Tm
open Go.Lens.Tb Go.Proofs
variable [Lz]
set_option linter.unusedSectionVars false
set_option maxRecDepth 100000
attribute [local irreducible] TK PK T RG EfR Body CG
set_option maxHeartbeats 4000000 in
theorem w143 (s:List UInt8) (hl:s.length≤4000):CallOk Tryz.prog 143 [vS (bsO s)] (lookM []) (.tup [.pv (.agg [pI (recR s).1.1,pS (bsO (recR s).1.2.1),pL eN (recR s).1.2.2.1,pL eI (recR s).1.2.2.2.1,pS (bsO (recR s).1.2.2.2.2)]),vI (recR s).2]) []:=by
 refine cG qf143 rfl (nB rfl) rfl (E rfl (B.runZ rfl (fun l=>Frz.boxN l rfl) rfl) (E rfl (B.lenB (a:=s) rfl un9) (E rfl (B.sub rfl rfl (by unfold R64;omega)) (Eg rfl rfl (fun hc=>B.move rfl) rfl (Eg rfl rfl (fun hc=>B.move rfl) rfl (Eg rfl rfl (fun hc=>B.sidx (i:=(Int.toNat ((s.length:Int)-8))) (ev1_gd rfl hc) (ev1_gd rfl hc) un9 (Int.toNat_of_nonneg (by first|omega|(have hc2:=hc;simp at hc2;omega))).symm (show (Int.toNat ((s.length:Int)-8))<s.length from (by first|omega|(have hc2:=hc;simp at hc2;omega)))) rfl (Eg rfl rfl (fun hc=>B.neq (ev1_gd rfl hc) rfl) rfl (E rfl (B.pick rfl rfl rfl rfl (gdB rfl) (pick_or _)) (Eg rfl rfl (fun hc=>B.move rfl) rfl (Eg rfl rfl (fun hc=>B.move rfl) rfl (Eg rfl rfl (fun hc=>B.add (ev1_gd rfl hc) rfl (by unfold R64;omega)) rfl (Eg rfl rfl (fun hc=>B.slLB (a:=s) (i:=(Int.toNat (((s.length:Int)-8)+1))) (ev1_gd rfl hc) (ev1_gd rfl hc) un9 (Int.toNat_of_nonneg (by first|omega|(have hc2:=hc;simp at hc2;omega))).symm (by first|omega|(have hc2:=hc;simp at hc2;omega))) rfl (Eg rfl rfl (fun hc=>B.call (w194 (List.drop (Int.toNat (((s.length:Int)-8)+1)) s) (by simp only[List.length_drop];omega)) rfl (ds1 (ev1_gd rfl hc)) rfl) rfl ?_)))))))))))))
 refine Eg rfl rfl (fun hc=>B.not (ev1_gd rfl hc)) rfl (E rfl (B.pick rfl rfl rfl rfl (gdB rfl) (pick_or _)) (Cb rfl rfl (fun h1=>?_) (fun h1=>?_)))
 ·have hq:=sg_25 h1
  exact E rfl (B.runZ (val:=.pv (.agg [pI 0,pS (bsO []),pL eN [],pL eI [],pS (bsO [])])) rfl (fun l=>Frz.aggN l rfl) rfl) (Rt rfl (leaf (val0:=.tup [.pv (.agg [pI 0,pS (bsO []),pL eN [],pL eI [],pS (bsO [])]),vI 25]) (by kernel_rfl) (tup2 (lag (lcons (pli (by rw[hq])) (lcons (pls (by rw[hq])) (lcons (plsl (by rw[hq])) (lcons (plsl (by rw[hq])) (lcons (pls (by rw[hq])) rfl)))))) (li (by rw[hq])))))
 ·refine tk 4 rfl ?_
  refine tn ⟨[(0,vS (bsO s)),(2,.bref 3 0),(4,vI ((s.length:Int)-8))],[(3,.box 119 [vI 0,vS (bsO []),vL eN [],vL eI [],vS (bsO [])])]⟩ rfl rfl rfl ?_
  obtain⟨h8,hsg⟩:=sg_ok h1
  obtain⟨m,hm⟩:∃ m,m=s.length-8:=⟨_,rfl⟩
  rw[show ((s.length:Int)-8)=(m:Int) by omega]
  refine kc (E rfl (B.slHB (a:=s) (j:=m) rfl rfl un9 rfl (by first|omega|(have hc2:=hc;simp at hc2;omega))) ?_)
  refine tk 5 rfl ?_
  refine tn ⟨[(0,vS (bsO s)),(2,.bref 3 0),(4,vI m),(5,vS (bsO (List.take m s)))],[(3,.box 119 [vI 0,vS (bsO []),vL eN [],vL eI [],vS (bsO [])])]⟩ rfl rfl rfl ?_
  obtain⟨t,ht⟩:∃ t,t=List.take m s:=⟨_,rfl⟩
  rw[←ht]
  have htl:t.length≤4000:=by rw[ht,List.length_take];omega
  have htp:=splS_pos t
  refine kc (E rfl (B.add rfl rfl (by unfold R64;omega)) (E rfl (B.slLB (a:=s) (i:=(m+1)) rfl rfl un9 (by omega) (by first|omega|(have hc2:=hc;simp at hc2;omega))) (C rfl (w92 t (by omega)) rfl rfl rfl (E rfl (B.sneB (a:=(List.drop (m+1) s)) (b:=(sumS t)) rfl rfl) (Dr rfl (by kernel_rfl) (Cp rfl rfl (fun h2=>?_) (fun h2=>?_)))))))
  ·have hq:=rec_27 hm ht hsg h2
   exact E rfl (B.runZ (val:=.pv (.agg [pI 0,pS (bsO []),pL eN [],pL eI [],pS (bsO [])])) rfl (fun l=>Frz.aggN l rfl) rfl) (Rt rfl (leaf (val0:=.tup [.pv (.agg [pI 0,pS (bsO []),pL eN [],pL eI [],pS (bsO [])]),vI 27]) (by kernel_rfl) (tup2 (lag (lcons (pli (by rw[hq])) (lcons (pls (by rw[hq])) (lcons (plsl (by rw[hq])) (lcons (plsl (by rw[hq])) (lcons (pls (by rw[hq])) rfl)))))) (li (by rw[hq])))))
  ·have hgo:=rec_go hm ht hsg h2
   refine C rfl (w119 t (by omega)) rfl rfl rfl (E rfl (B.idx (z:=[]) (i:=0) rfl rfl un73 sz9 (fun _=>rfl) rfl (by first|omega|(have hc2:=hc;simp at hc2;omega))) (C rfl (w135 (List.getD (splS t) 0 [])) rfl rfl rfl (Eg rfl rfl (fun hc=>B.move rfl) rfl (Eg rfl rfl (fun hc=>B.lenL (ev1_gd rfl hc) un73) rfl (Eg rfl rfl (fun hc=>B.lss (ev1_gd rfl hc) rfl) rfl (E rfl (B.pick rfl rfl rfl rfl (gdB rfl) (pick_or _)) (Cb rfl rfl (fun h3=>?_) (fun h3=>?_))))))))
   ·have hq:=hgo.trans (if_neg (by rw[ok_no1 h3];decide))
    exact E rfl (B.runZ (val:=.pv (.agg [pI 0,pS (bsO []),pL eN [],pL eI [],pS (bsO [])])) rfl (fun l=>Frz.aggN l rfl) rfl) (Rt rfl (leaf (val0:=.tup [.pv (.agg [pI 0,pS (bsO []),pL eN [],pL eI [],pS (bsO [])]),vI 25]) (by kernel_rfl) (tup2 (lag (lcons (pli (by rw[hq])) (lcons (pls (by rw[hq])) (lcons (plsl (by rw[hq])) (lcons (plsl (by rw[hq])) (lcons (pls (by rw[hq])) rfl)))))) (li (by rw[hq])))))
   ·obtain⟨hi,hcc,hw2,hw3⟩:=ok_go1 h3
    have hr3:=(cut3_two t).2 hw2
    refine E rfl (B.idx (z:=[]) (i:=0) rfl rfl un73 sz9 (fun _=>rfl) rfl (by first|omega|(have hc2:=hc;simp at hc2;omega))) (E rfl (B.lenB (a:=(List.getD (splS t) 0 [])) rfl un9) (E rfl (B.add rfl rfl (by unfold R64;omega)) (E rfl (B.slLB (a:=t) (i:=(List.length (List.getD (splS t) 0 [])+1)) rfl rfl un9 (by omega) (by first|omega|(have hc2:=hc;simp at hc2;omega))) (C rfl (w74 (List.drop (List.length (List.getD (splS t) 0 [])+1) t) (by simp only[List.length_drop];omega)) rfl rfl rfl (E rfl (B.runZ rfl (fun l=>Frz.boxN l rfl) rfl) ?_)))))
    refine tk 12 rfl ?_
    refine tn ⟨[(2,.bref 3 0),(7,vI (Option.getD (intR (List.getD (splS t) 0 [])) 0)),(9,.bref 10 0),(10,vB (readR (List.drop (List.length (List.getD (splS t) 0 [])+1) t)).2)],[(3,.box 119 [vI 0,vS (bsO []),vL eN [],vL eI [],vS (bsO [])]),(10,.box 119 [vI (readR (List.drop (List.length (List.getD (splS t) 0 [])+1) t)).1.1,vS (bsO (readR (List.drop (List.length (List.getD (splS t) 0 [])+1) t)).1.2.1),vL eN (readR (List.drop (List.length (List.getD (splS t) 0 [])+1) t)).1.2.2.1,vL eI (readR (List.drop (List.length (List.getD (splS t) 0 [])+1) t)).1.2.2.2.1,vS (bsO (readR (List.drop (List.length (List.getD (splS t) 0 [])+1) t)).1.2.2.2.2)])]⟩ rfl rfl rfl ?_
    rw[←hr3,←cut3_head t]
    refine kc ?_
    obtain⟨hv1,hv2,hv3⟩:=evR_len t
    refine Eg rfl rfl (fun hc=>B.loadBA rfl rfl rfl ag119 sz119 rfl rfl) rfl (Eg rfl rfl (fun hc=>B.call (w69 (evR t) (by omega) (by omega) (by omega)) rfl (ds1 (ev1_gd rfl hc)) rfl) rfl (Eg rfl rfl (fun hc=>B.neq (ev1_gd rfl hc) rfl) rfl (E rfl (B.pick rfl rfl rfl rfl (gdB rfl) (pick_or _)) (Cb rfl rfl (fun h4=>?_) (fun h4=>?_)))))
    ·have hq:=hgo.trans (if_neg (by rw[ok_no2 h4];decide))
     exact E rfl (B.runZ (val:=.pv (.agg [pI 0,pS (bsO []),pL eN [],pL eI [],pS (bsO [])])) rfl (fun l=>Frz.aggN l rfl) rfl) (Rt rfl (leaf (val0:=.tup [.pv (.agg [pI 0,pS (bsO []),pL eN [],pL eI [],pS (bsO [])]),vI 25]) (by kernel_rfl) (tup2 (lag (lcons (pli (by rw[hq])) (lcons (pls (by rw[hq])) (lcons (plsl (by rw[hq])) (lcons (plsl (by rw[hq])) (lcons (pls (by rw[hq])) rfl)))))) (li (by rw[hq])))))
    ·have hq:=hgo.trans (if_pos (ok_yes hi hcc h4))
     exact Rt rfl (leaf (val0:=.tup [.pv (.agg [pI (evR t).1,pS (bsO (evR t).2.1),pL eN (evR t).2.2.1,pL eI (evR t).2.2.2.1,pS (bsO (evR t).2.2.2.2)]),vI 0]) (by kernel_rfl) (tup2 (lag (lcons (pli (by rw[hq])) (lcons (pls (by rw[hq])) (lcons (plsl (by rw[hq])) (lcons (plsl (by rw[hq])) (lcons (pls (by rw[hq])) rfl)))))) (li (by rw[hq]))))
end Go.Lens.Tm
end
section
namespace Go.Lens.Tm
open Go.Lens.Tb Go.Proofs
set_option linter.unusedSectionVars false
variable [Lz]
def dgB (k:Nat):Bool:=Nat.ble 48 k&&Nat.ble k 57
def dgP:List PV:=(List.range 256).map fun k=>pB (dgB k)
def dgD:List DV:=(List.range 256).map fun k=>vB (dgB k)
abbrev dgS:List UInt8:=[48,49,50,51,52,53,54,55,56,57]
theorem set_run:orc 60 262 2000 [vS (bsO dgS)] []=some (.tup [.pv (.agg dgP),vB true],[]):=by kernel_rfl
theorem w262 (hp:PowLaid) (hm:OrcOk Tryz.prog (mergeO 121)):CallOk Tryz.prog 262 [vS (bsO dgS)] (lookM []) (.tup [.pv (.agg dgP),vB true]) []:=orc_ok hp hm 60 262 2000 _ _ _ _ set_run
theorem con_runs:(List.range 256).map (fun (k:Nat)=>orc 60 304 2000 [.bref 6 0,.pv (.lit (.int .u8 ((k:Nat):Int)))] [(6,.box 354 dgD)])=(List.range 256).map (fun (k:Nat)=>some (vB (dgB k),[(6,.box 354 dgD)])):=by kernel_rfl
theorem w304 (hp:PowLaid) (hm:OrcOk Tryz.prog (mergeO 121)) (k:Nat) (hk:k<256):CallOk Tryz.prog 304 [.bref 6 0,.pv (.lit (.int .u8 ((k:Nat):Int)))] (lookM [(6,.box 354 dgD)]) (vB (dgB k)) [(6,.box 354 dgD)]:=
 orc_ok hp hm 60 304 2000 _ _ _ _ (List.map_inj_left.1 con_runs k (List.mem_range.2 hk))
theorem w304i (hp:PowLaid) (hm:OrcOk Tryz.prog (mergeO 121)) (n:Int) (h0:0≤n) (h1:n≤255):CallOk Tryz.prog 304 [.bref 6 0,.pv (.lit (.int .u8 n))] (lookM [(6,.box 354 dgD)]) (vB (dgB n.toNat)) [(6,.box 354 dgD)]:=by
 have:=w304 hp hm n.toNat (by omega)
 rwa [Int.toNat_of_nonneg h0] at this
end Go.Lens.Tm
end
