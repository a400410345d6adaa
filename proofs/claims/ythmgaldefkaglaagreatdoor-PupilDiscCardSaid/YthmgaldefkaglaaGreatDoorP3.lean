/- A part of the proof of PupilDiscCardSaid, without conditions. -/
import Derived.Test.YthmgaldefkaglaaGreatDoorP2
import Derived.Test.YthmgaldefkaglaaGreatDoorProg
import Derived.KernelRfl
import Derived.MapKept
import Derived.RangeFuncIn
import Derived.Laws.Externs
import Derived.Lib.Mul64
import Derived.Lib.Atoi
import Derived.Lib.ItoaNum
import Derived.Shelf.LaysM
import Derived.Shelf.Strconv.Itoa3
import Derived.Lib.AppendIntMem
import Derived.Shelf.Strconv.Atoi
set_option linter.unusedVariables false
set_option linter.unusedSimpArgs false
set_option linter.unusedSectionVars false
set_option maxHeartbeats 4000000
section
namespace Go.Lens.Tb
open Go.Proofs Go.Proofs.Tryz
variable [Lz]
theorem jD {P:Program} {t:TypeId} {i:TypeInfo} (h:P.types[t]? =some i):P.info? t=some i:=by
  have hl:t<P.types.size:=(zT.1 h).1
  unfold Tables.info?
  rw[if_pos hl];exact h
def AllT {α:Type} (Q:Nat->α->Prop):Tr α->Prop
  | .nil=>True
  | .node l k v r=>AllT Q l/\Q k v/\AllT Q r
theorem AllT.mem {α:Type} {Q:Nat->α->Prop}:∀ {t:Tr α},AllT Q t->∀ p∈t.toList,Q p.1 p.2
  | .nil,_,p,h=>by cases h
  | .node l k v r,H,p,h=>by
    obtain⟨h1,h2,h3⟩:=H
    simp only[Tr.toList,zI,zG] at h
    rcases h with h|rfl|h
    · exact AllT.mem h1 p h
    · exact h2
    · exact AllT.mem h3 p h
def QT (t:TypeId) (i:TI):Prop:=Tryz.prog.underlying t=some i.und/\Tryz.prog.info? t=some i.info/\(i.eqOk=true->(Tryz.prog.stoodInHeld t||Tryz.prog.eqGuardType Tryz.prog.depth t)=false)
def QF (f:FuncId) (F:FnI):Prop:=∃ fn,Tryz.prog.funcs[f]? =some fn/\fn.body=F.body/\fn.ntmps=F.n/\fn.results=F.res/\(∀ c,F.body=some c->jA F.n c=true)/\∀ args w,(callFunc f args).run Tryz.prog w=.ok (.enter f args) w
def dstB (F:FnI):Bool:=match F.body with|some c=>jA F.n c|none=>true
theorem dstB_ok {F:FnI} (h:dstB F=true):∀ c,F.body=some c->jA F.n c=true:=by
  intro c hc;unfold dstB at h;rw[hc] at h;exact h
abbrev mF (n m:Nat) (f:Func):FnI:=⟨n,m,f.results,f.body⟩
abbrev mT (i u:TypeInfo) (e:Bool):TI:=⟨i,u.desc,e⟩
theorem mq {f:FuncId} {F:FnI} {fn:Func} (h:Tryz.prog.funcs[f]? =some fn) (c:∀ args w,(callFunc f args).run Tryz.prog w=.ok (.enter f args) w) (e:(fn.body,fn.ntmps,fn.results)=(F.body,F.n,F.res)) (d:dstB F=true):QF f F:=by
  simp only[zz] at e
  exact⟨fn,h,e.1,e.2.1,e.2.2,dstB_ok d,c⟩
theorem mt {t:TypeId} {i u:TypeInfo} (h:Tryz.prog.underlying t=some u.desc) (k:Tryz.prog.types[t]? =some i):QT t (mT i u false):=⟨h,jD k,fun h=>by cases h⟩
noncomputable def fn9:=mF 224 200867261518684490950123614510168077817131711704861224468479 f9
theorem qf9:QF 9 fn9:=mq func9 call9 Z ae
noncomputable def fn16:=mF 91 1208925851139830861340659 f16
theorem qf16:QF 16 fn16:=mq func16 call16 Z ae
noncomputable def fn20:=mF 298 53919893334693598447818533684862293544321700571598734101867235639295 f20
theorem qf20:QF 20 fn20:=mq func20 call20 Z ae
noncomputable def fn22:=mF 33 262267 f22
theorem qf22:QF 22 fn22:=mq func22 call22 Z ae
noncomputable def fn24:=mF 33 16777715 f24
theorem qf24:QF 24 fn24:=mq func24 call24 Z ae
noncomputable def fn25:=mF 40 33884413 f25
theorem qf25:QF 25 fn25:=mq func25 call25 Z ae
noncomputable def fn26:=mF 79 188894659332378330136861 f26
theorem qf26:QF 26 fn26:=mq func26 call26 Z ae
noncomputable def fn27:=mF 19 16525 f27
theorem qf27:QF 27 fn27:=mq func27 call27 Z ae
noncomputable def fn33:=mF 70 2199107211251 f33
theorem qf33:QF 33 fn33:=mq func33 call33 Z ae
noncomputable def fn36:=mF 28 2130167 f36
theorem qf36:QF 36 fn36:=mq func36 call36 Z ae
noncomputable def fn38:=mF 123 166154133302192491417913031226556383 f38
theorem qf38:QF 38 fn38:=mq func38 call38 Z ae
noncomputable def fn46:=mF 89 2426715299822779698212343 f46
theorem qf46:QF 46 fn46:=mq func46 call46 Z ae
noncomputable def fn52:=mF 41 1073751037 f52
theorem qf52:QF 52 fn52:=mq func52 call52 Z ae
noncomputable def fn53:=mF 27 1085 f53
theorem qf53:QF 53 fn53:=mq func53 call53 Z ae
noncomputable def fn57:=mF 26 33571891 f57
theorem qf57:QF 57 fn57:=mq func57 call57 Z ae
noncomputable def fn58:=mF 18 1005 f58
theorem qf58:QF 58 fn58:=mq func58 call58 Z ae
noncomputable def fn59:=mF 61 18049583016837235 f59
theorem qf59:QF 59 fn59:=mq func59 call59 Z ae
noncomputable def fn60:=mF 5 5 f60
theorem qf60:QF 60 fn60:=mq func60 call60 Z ae
noncomputable def fn61:=mF 19 131357 f61
theorem qf61:QF 61 fn61:=mq func61 call61 Z ae
noncomputable def fn62:=mF 5 5 f62
theorem qf62:QF 62 fn62:=mq func62 call62 Z ae
noncomputable def fn63:=mF 9 37 f63
theorem qf63:QF 63 fn63:=mq func63 call63 Z ae
noncomputable def fn68:=mF 24 116991 f68
theorem qf68:QF 68 fn68:=mq func68 call68 Z ae
noncomputable def fn69:=mF 55 1073774579 f69
theorem qf69:QF 69 fn69:=mq func69 call69 Z ae
noncomputable def fn76:=mF 35 32831 f76
theorem qf76:QF 76 fn76:=mq func76 call76 Z ae
noncomputable def fn81:=mF 68 46116860184810750973 f81
theorem qf81:QF 81 fn81:=mq func81 call81 Z ae
noncomputable def fn86:=mF 26 33571891 f86
theorem qf86:QF 86 fn86:=mq func86 call86 Z ae
noncomputable def fn89:=mF 87 9671406557976997101826035 f89
theorem qf89:QF 89 fn89:=mq func89 call89 Z ae
noncomputable def fn97:=mF 16 71 f97
theorem qf97:QF 97 fn97:=mq func97 call97 Z ae
noncomputable def fn98:=mF 15 4597 f98
theorem qf98:QF 98 fn98:=mq func98 call98 Z ae
noncomputable def fn99:=mF 7 51 f99
theorem qf99:QF 99 fn99:=mq func99 call99 Z ae
noncomputable def fn100:=mF 6 5 f100
theorem qf100:QF 100 fn100:=mq func100 call100 Z ae
noncomputable def fn101:=mF 45 21137395 f101
theorem qf101:QF 101 fn101:=mq func101 call101 Z ae
noncomputable def fn102:=mF 29 329703 f102
theorem qf102:QF 102 fn102:=mq func102 call102 Z ae
noncomputable def fn103:=mF 81 2066107393849522390003 f103
theorem qf103:QF 103 fn103:=mq func103 call103 Z ae
noncomputable def fn104:=mF 32 135005 f104
theorem qf104:QF 104 fn104:=mq func104 call104 Z ae
noncomputable def fn105:=mF 15 16455 f105
theorem qf105:QF 105 fn105:=mq func105 call105 Z ae
noncomputable def fn110:=mF 2 1 f110
theorem qf110:QF 110 fn110:=mq func110 call110 Z ae
noncomputable def fn111:=mF 14 157 f111
theorem qf111:QF 111 fn111:=mq func111 call111 Z ae
noncomputable def fn112:=mF 76 2305843013508663293 f112
theorem qf112:QF 112 fn112:=mq func112 call112 Z ae
noncomputable def fn113:=mF 8 47 f113
theorem qf113:QF 113 fn113:=mq func113 call113 Z ae
noncomputable def fn114:=mF 24 1965 f114
theorem qf114:QF 114 fn114:=mq func114 call114 Z ae
noncomputable def fn115:=mF 35 15547 f115
theorem qf115:QF 115 fn115:=mq func115 call115 Z ae
noncomputable def fn116:=mF 22 8253 f116
theorem qf116:QF 116 fn116:=mq func116 call116 Z ae
noncomputable def fn117:=mF 38 16860147 f117
theorem qf117:QF 117 fn117:=mq func117 call117 Z ae
noncomputable def fn118:=mF 9 7 f118
theorem qf118:QF 118 fn118:=mq func118 call118 Z ae
noncomputable def fn119:=mF 21 16631 f119
theorem qf119:QF 119 fn119:=mq func119 call119 Z ae
noncomputable def fn120:=mF 96 39614161541974063667887538429 f120
theorem qf120:QF 120 fn120:=mq func120 call120 Z ae
noncomputable def fn121:=mF 32 32799 f121
theorem qf121:QF 121 fn121:=mq func121 call121 Z ae
noncomputable def fn124:=mF 11 19 f124
theorem qf124:QF 124 fn124:=mq func124 call124 Z ae
noncomputable def fn125:=mF 34 1055 f125
theorem qf125:QF 125 fn125:=mq func125 call125 Z ae
noncomputable def fn126:=mF 16 31 f126
theorem qf126:QF 126 fn126:=mq func126 call126 Z ae
noncomputable def fn127:=mF 14 77 f127
theorem qf127:QF 127 fn127:=mq func127 call127 Z ae
noncomputable def fn128:=mF 9 31 f128
theorem qf128:QF 128 fn128:=mq func128 call128 Z ae
noncomputable def fn130:=mF 18 959 f130
theorem qf130:QF 130 fn130:=mq func130 call130 Z ae
noncomputable def fn131:=mF 8 45 f131
theorem qf131:QF 131 fn131:=mq func131 call131 Z ae
noncomputable def fn132:=mF 26 61811 f132
theorem qf132:QF 132 fn132:=mq func132 call132 Z ae
noncomputable def fn133:=mF 31 223 f133
theorem qf133:QF 133 fn133:=mq func133 call133 Z ae
noncomputable def fn134:=mF 4 7 f134
theorem qf134:QF 134 fn134:=mq func134 call134 Z ae
noncomputable def fn135:=mF 30 207 f135
theorem qf135:QF 135 fn135:=mq func135 call135 Z ae
noncomputable def fn137:=mF 13 4117 f137
theorem qf137:QF 137 fn137:=mq func137 call137 Z ae
noncomputable def fn142:=mF 15 5 f142
theorem qf142:QF 142 fn142:=mq func142 call142 Z ae
noncomputable def fn143:=mF 36 459223 f143
theorem qf143:QF 143 fn143:=mq func143 call143 Z ae
noncomputable def fn144:=mF 9 19 f144
theorem qf144:QF 144 fn144:=mq func144 call144 Z ae
noncomputable def fn145:=mF 6 7 f145
theorem qf145:QF 145 fn145:=mq func145 call145 Z ae
noncomputable def fn148:=mF 11 5 f148
theorem qf148:QF 148 fn148:=mq func148 call148 Z ae
noncomputable def fn149:=mF 44 1879110077 f149
theorem qf149:QF 149 fn149:=mq func149 call149 Z ae
noncomputable def fn150:=mF 8 21 f150
theorem qf150:QF 150 fn150:=mq func150 call150 Z ae
noncomputable def fn154:=mF 12 83 f154
theorem qf154:QF 154 fn154:=mq func154 call154 Z ae
noncomputable def fn155:=mF 25 8243 f155
theorem qf155:QF 155 fn155:=mq func155 call155 Z ae
noncomputable def fn157:=mF 54 571780410385405 f157
theorem qf157:QF 157 fn157:=mq func157 call157 Z ae
noncomputable def fn158:=mF 25 4157 f158
theorem qf158:QF 158 fn158:=mq func158 call158 Z ae
noncomputable def fn162:=mF 16 23 f162
theorem qf162:QF 162 fn162:=mq func162 call162 Z ae
noncomputable def fn163:=mF 17 563 f163
theorem qf163:QF 163 fn163:=mq func163 call163 Z ae
noncomputable def fn164:=mF 6 7 f164
theorem qf164:QF 164 fn164:=mq func164 call164 Z ae
noncomputable def fn165:=mF 13 15 f165
theorem qf165:QF 165 fn165:=mq func165 call165 Z ae
noncomputable def fn166:=mF 16 31 f166
theorem qf166:QF 166 fn166:=mq func166 call166 Z ae
noncomputable def fn167:=mF 21 266195 f167
theorem qf167:QF 167 fn167:=mq func167 call167 Z ae
noncomputable def fn168:=mF 41 65551 f168
theorem qf168:QF 168 fn168:=mq func168 call168 Z ae
noncomputable def fn170:=mF 23 31 f170
theorem qf170:QF 170 fn170:=mq func170 call170 Z ae
noncomputable def fn171:=mF 20 32783 f171
theorem qf171:QF 171 fn171:=mq func171 call171 Z ae
noncomputable def fn172:=mF 11 5 f172
theorem qf172:QF 172 fn172:=mq func172 call172 Z ae
noncomputable def fn173:=mF 41 8719974109 f173
theorem qf173:QF 173 fn173:=mq func173 call173 Z ae
noncomputable def fn174:=mF 23 7741 f174
theorem qf174:QF 174 fn174:=mq func174 call174 Z ae
noncomputable def fn176:=mF 6 7 f176
theorem qf176:QF 176 fn176:=mq func176 call176 Z ae
noncomputable def fn177:=mF 5 5 f177
theorem qf177:QF 177 fn177:=mq func177 call177 Z ae
noncomputable def fn179:=mF 34 1048895 f179
theorem qf179:QF 179 fn179:=mq func179 call179 Z ae
noncomputable def fn180:=mF 13 15 f180
theorem qf180:QF 180 fn180:=mq func180 call180 Z ae
noncomputable def fn181:=mF 11 7 f181
theorem qf181:QF 181 fn181:=mq func181 call181 Z ae
noncomputable def fn183:=mF 11 51 f183
theorem qf183:QF 183 fn183:=mq func183 call183 Z ae
noncomputable def fn184:=mF 13 115 f184
theorem qf184:QF 184 fn184:=mq func184 call184 Z ae
noncomputable def fn185:=mF 19 5 f185
theorem qf185:QF 185 fn185:=mq func185 call185 Z ae
noncomputable def fn186:=mF 15 4597 f186
theorem qf186:QF 186 fn186:=mq func186 call186 Z ae
noncomputable def fn187:=mF 7 51 f187
theorem qf187:QF 187 fn187:=mq func187 call187 Z ae
noncomputable def fn188:=mF 23 8287 f188
theorem qf188:QF 188 fn188:=mq func188 call188 Z ae
noncomputable def fn189:=mF 41 137438986365 f189
theorem qf189:QF 189 fn189:=mq func189 call189 Z ae
noncomputable def fn190:=mF 29 536607 f190
theorem qf190:QF 190 fn190:=mq func190 call190 Z ae
noncomputable def fn191:=mF 14 23 f191
theorem qf191:QF 191 fn191:=mq func191 call191 Z ae
noncomputable def fn192:=mF 26 4127 f192
theorem qf192:QF 192 fn192:=mq func192 call192 Z ae
noncomputable def fn193:=mF 17 8333 f193
theorem qf193:QF 193 fn193:=mq func193 call193 Z ae
noncomputable def fn194:=mF 18 32773 f194
theorem qf194:QF 194 fn194:=mq func194 call194 Z ae
noncomputable def fn195:=mF 19 595 f195
theorem qf195:QF 195 fn195:=mq func195 call195 Z ae
noncomputable def fn197:=mF 13 7 f197
theorem qf197:QF 197 fn197:=mq func197 call197 Z ae
noncomputable def fn198:=mF 67 4512396794266623 f198
theorem qf198:QF 198 fn198:=mq func198 call198 Z ae
noncomputable def fn199:=mF 66 2216203388927 f199
theorem qf199:QF 199 fn199:=mq func199 call199 Z ae
noncomputable def fn200:=mF 8 7 f200
theorem qf200:QF 200 fn200:=mq func200 call200 Z ae
noncomputable def fn202:=mF 9 19 f202
theorem qf202:QF 202 fn202:=mq func202 call202 Z ae
noncomputable def fn203:=mF 23 7741 f203
theorem qf203:QF 203 fn203:=mq func203 call203 Z ae
noncomputable def fn204:=mF 28 33569243 f204
theorem qf204:QF 204 fn204:=mq func204 call204 Z ae
noncomputable def fn205:=mF 74 2656348316587754799055 f205
theorem qf205:QF 205 fn205:=mq func205 call205 Z ae
noncomputable def fn209:=mF 21 266195 f209
theorem qf209:QF 209 fn209:=mq func209 call209 Z ae
noncomputable def fn210:=mF 9 31 f210
theorem qf210:QF 210 fn210:=mq func210 call210 Z ae
noncomputable def fn211:=mF 32 60575 f211
theorem qf211:QF 211 fn211:=mq func211 call211 Z ae
noncomputable def fn212:=mF 7 7 f212
theorem qf212:QF 212 fn212:=mq func212 call212 Z ae
noncomputable def fn214:=mF 206 1471849183144559507171067885869379144665530355 f214
theorem qf214:QF 214 fn214:=mq func214 call214 Z ae
noncomputable def fn215:=mF 15 19 f215
theorem qf215:QF 215 fn215:=mq func215 call215 Z ae
noncomputable def fn216:=mF 20 285 f216
theorem qf216:QF 216 fn216:=mq func216 call216 Z ae
noncomputable def fn217:=mF 40 270365 f217
theorem qf217:QF 217 fn217:=mq func217 call217 Z ae
noncomputable def fn219:=mF 41 1101660193843 f219
theorem qf219:QF 219 fn219:=mq func219 call219 Z ae
noncomputable def fn222:=mF 69 1170940335589707775 f222
theorem qf222:QF 222 fn222:=mq func222 call222 Z ae
noncomputable def fn223:=mF 18 17389 f223
theorem qf223:QF 223 fn223:=mq func223 call223 Z ae
noncomputable def fn224:=mF 20 604275 f224
theorem qf224:QF 224 fn224:=mq func224 call224 Z ae
noncomputable def fn225:=mF 21 266195 f225
theorem qf225:QF 225 fn225:=mq func225 call225 Z ae
noncomputable def fn226:=mF 16 11 f226
theorem qf226:QF 226 fn226:=mq func226 call226 Z ae
noncomputable def fn227:=mF 21 266195 f227
theorem qf227:QF 227 fn227:=mq func227 call227 Z ae
noncomputable def fn230:=mF 21 575 f230
theorem qf230:QF 230 fn230:=mq func230 call230 Z ae
noncomputable def fn231:=mF 5 5 f231
theorem qf231:QF 231 fn231:=mq func231 call231 Z ae
noncomputable def fn232:=mF 4 7 f232
theorem qf232:QF 232 fn232:=mq func232 call232 Z ae
noncomputable def fn233:=mF 42 537399539 f233
theorem qf233:QF 233 fn233:=mq func233 call233 Z ae
noncomputable def fn234:=mF 9 15 f234
theorem qf234:QF 234 fn234:=mq func234 call234 Z ae
noncomputable def fn235:=mF 14 19 f235
theorem qf235:QF 235 fn235:=mq func235 call235 Z ae
noncomputable def fn236:=mF 13 7 f236
theorem qf236:QF 236 fn236:=mq func236 call236 Z ae
noncomputable def fn237:=mF 15 563 f237
theorem qf237:QF 237 fn237:=mq func237 call237 Z ae
noncomputable def fn238:=mF 23 4339 f238
theorem qf238:QF 238 fn238:=mq func238 call238 Z ae
noncomputable def fn240:=mF 9 39 f240
theorem qf240:QF 240 fn240:=mq func240 call240 Z ae
noncomputable def fn241:=mF 84 37778931864056941837311 f241
theorem qf241:QF 241 fn241:=mq func241 call241 Z ae
noncomputable def fn242:=mF 8 19 f242
theorem qf242:QF 242 fn242:=mq func242 call242 Z ae
noncomputable def fn243:=mF 8 19 f243
theorem qf243:QF 243 fn243:=mq func243 call243 Z ae
noncomputable def fn245:=mF 23 270647 f245
theorem qf245:QF 245 fn245:=mq func245 call245 Z ae
noncomputable def fn247:=mF 24 8223 f247
theorem qf247:QF 247 fn247:=mq func247 call247 Z ae
noncomputable def fn249:=mF 20 524429 f249
theorem qf249:QF 249 fn249:=mq func249 call249 Z ae
noncomputable def fn253:=mF 51 16371 f253
theorem qf253:QF 253 fn253:=mq func253 call253 Z ae
noncomputable def fn254:=mF 10 21 f254
theorem qf254:QF 254 fn254:=mq func254 call254 Z ae
noncomputable def fn256:=mF 19 66483 f256
theorem qf256:QF 256 fn256:=mq func256 call256 Z ae
noncomputable def fn257:=mF 55 549755814911 f257
theorem qf257:QF 257 fn257:=mq func257 call257 Z ae
noncomputable def fn258:=mF 39 132083 f258
theorem qf258:QF 258 fn258:=mq func258 call258 Z ae
noncomputable def fn259:=mF 21 16389 f259
theorem qf259:QF 259 fn259:=mq func259 call259 Z ae
noncomputable def fn268:=mF 6 5 f268
theorem qf268:QF 268 fn268:=mq func268 call268 Z ae
noncomputable def fn270:=mF 13 247 f270
theorem qf270:QF 270 fn270:=mq func270 call270 Z ae
noncomputable def fn271:=mF 14 8363 f271
theorem qf271:QF 271 fn271:=mq func271 call271 Z ae
noncomputable def fn272:=mF 19 66483 f272
theorem qf272:QF 272 fn272:=mq func272 call272 Z ae
noncomputable def fn273:=mF 148 42535296023574879666274036850519702559 f273
theorem qf273:QF 273 fn273:=mq func273 call273 Z ae
noncomputable def fn274:=mF 8 5 f274
theorem qf274:QF 274 fn274:=mq func274 call274 Z ae
noncomputable def fn275:=mF 25 4119 f275
theorem qf275:QF 275 fn275:=mq func275 call275 Z ae
noncomputable def fn276:=mF 18 19 f276
theorem qf276:QF 276 fn276:=mq func276 call276 Z ae
noncomputable def fn277:=mF 143 702342826256273603086707106465568295829491 f277
theorem qf277:QF 277 fn277:=mq func277 call277 Z ae
noncomputable def fn285:=mF 13 147 f285
theorem qf285:QF 285 fn285:=mq func285 call285 Z ae
noncomputable def fn300:=mF 53 17179886351 f300
theorem qf300:QF 300 fn300:=mq func300 call300 Z ae
noncomputable def fn309:=mF 25 16661 f309
theorem qf309:QF 309 fn309:=mq func309 call309 Z ae
noncomputable def fn310:=mF 8 19 f310
theorem qf310:QF 310 fn310:=mq func310 call310 Z ae
noncomputable def ty0:=mT t0 t0 false
theorem qt0:QT 0 ty0:=mt underlying0 type0
noncomputable def ty1:=mT t1 t1 false
theorem qt1:QT 1 ty1:=mt underlying1 type1
noncomputable def ty2:=mT t2 t2 false
theorem qt2:QT 2 ty2:=mt underlying2 type2
noncomputable def ty3:=mT t3 t3 true
theorem qt3:QT 3 ty3:=⟨underlying3,jD type3,fun _=>ae⟩
noncomputable def ty4:=mT t4 t4 true
theorem qt4:QT 4 ty4:=⟨underlying4,jD type4,fun _=>ae⟩
noncomputable def ty5:=mT t5 t5 true
theorem qt5:QT 5 ty5:=⟨underlying5,jD type5,fun _=>ae⟩
noncomputable def ty6:=mT t6 t5 false
theorem qt6:QT 6 ty6:=mt underlying6 type6
noncomputable def ty7:=mT t7 t7 false
theorem qt7:QT 7 ty7:=mt underlying7 type7
noncomputable def ty8:=mT t8 t7 false
theorem qt8:QT 8 ty8:=mt underlying8 type8
noncomputable def ty9:=mT t9 t9 true
theorem qt9:QT 9 ty9:=⟨underlying9,jD type9,fun _=>ae⟩
noncomputable def ty10:=mT t10 t9 false
theorem qt10:QT 10 ty10:=mt underlying10 type10
noncomputable def ty12:=mT t12 t12 false
theorem qt12:QT 12 ty12:=mt underlying12 type12
noncomputable def ty16:=mT t16 t16 false
theorem qt16:QT 16 ty16:=mt underlying16 type16
noncomputable def ty17:=mT t17 t17 false
theorem qt17:QT 17 ty17:=mt underlying17 type17
noncomputable def ty20:=mT t20 t20 false
theorem qt20:QT 20 ty20:=mt underlying20 type20
noncomputable def ty21:=mT t21 t21 true
theorem qt21:QT 21 ty21:=⟨underlying21,jD type21,fun _=>ae⟩
noncomputable def ty22:=mT t22 t22 false
theorem qt22:QT 22 ty22:=mt underlying22 type22
noncomputable def ty23:=mT t23 t22 false
theorem qt23:QT 23 ty23:=mt underlying23 type23
noncomputable def ty24:=mT t24 t3 true
theorem qt24:QT 24 ty24:=⟨underlying24,jD type24,fun _=>ae⟩
noncomputable def ty25:=mT t25 t25 false
theorem qt25:QT 25 ty25:=mt underlying25 type25
noncomputable def ty28:=mT t28 t28 false
theorem qt28:QT 28 ty28:=mt underlying28 type28
noncomputable def ty32:=mT t32 t32 false
theorem qt32:QT 32 ty32:=mt underlying32 type32
noncomputable def ty33:=mT t33 t9 true
theorem qt33:QT 33 ty33:=⟨underlying33,jD type33,fun _=>ae⟩
noncomputable def ty34:=mT t34 t34 false
theorem qt34:QT 34 ty34:=mt underlying34 type34
noncomputable def ty35:=mT t35 t34 true
theorem qt35:QT 35 ty35:=⟨underlying35,jD type35,fun _=>ae⟩
noncomputable def ty37:=mT t37 t37 false
theorem qt37:QT 37 ty37:=mt underlying37 type37
noncomputable def ty40:=mT t40 t40 false
theorem qt40:QT 40 ty40:=mt underlying40 type40
noncomputable def ty44:=mT t44 t44 false
theorem qt44:QT 44 ty44:=mt underlying44 type44
noncomputable def ty45:=mT t45 t45 false
theorem qt45:QT 45 ty45:=mt underlying45 type45
noncomputable def ty57:=mT t57 t57 true
theorem qt57:QT 57 ty57:=⟨underlying57,jD type57,fun _=>ae⟩
noncomputable def ty61:=mT t61 t61 false
theorem qt61:QT 61 ty61:=mt underlying61 type61
noncomputable def ty62:=mT t62 t62 false
theorem qt62:QT 62 ty62:=mt underlying62 type62
noncomputable def ty64:=mT t64 t64 false
theorem qt64:QT 64 ty64:=mt underlying64 type64
noncomputable def ty65:=mT t65 t65 false
theorem qt65:QT 65 ty65:=mt underlying65 type65
noncomputable def ty66:=mT t66 t65 false
theorem qt66:QT 66 ty66:=mt underlying66 type66
noncomputable def ty68:=mT t68 t68 true
theorem qt68:QT 68 ty68:=⟨underlying68,jD type68,fun _=>ae⟩
noncomputable def ty69:=mT t69 t69 false
theorem qt69:QT 69 ty69:=mt underlying69 type69
noncomputable def ty72:=mT t72 t72 false
theorem qt72:QT 72 ty72:=mt underlying72 type72
noncomputable def ty82:=mT t82 t82 false
theorem qt82:QT 82 ty82:=mt underlying82 type82
noncomputable def ty83:=mT t83 t82 true
theorem qt83:QT 83 ty83:=⟨underlying83,jD type83,fun _=>ae⟩
noncomputable def ty84:=mT t84 t84 false
theorem qt84:QT 84 ty84:=mt underlying84 type84
noncomputable def ty85:=mT t85 t85 false
theorem qt85:QT 85 ty85:=mt underlying85 type85
noncomputable def ty87:=mT t87 t87 false
theorem qt87:QT 87 ty87:=mt underlying87 type87
noncomputable def ty95:=mT t95 t95 false
theorem qt95:QT 95 ty95:=mt underlying95 type95
noncomputable def ty104:=mT t104 t104 false
theorem qt104:QT 104 ty104:=mt underlying104 type104
noncomputable def ty111:=mT t111 t82 false
theorem qt111:QT 111 ty111:=mt underlying111 type111
noncomputable def ty114:=mT t114 t114 false
theorem qt114:QT 114 ty114:=mt underlying114 type114
noncomputable def ty120:=mT t120 t120 false
theorem qt120:QT 120 ty120:=mt underlying120 type120
noncomputable def ty122:=mT t122 t120 true
theorem qt122:QT 122 ty122:=⟨underlying122,jD type122,fun _=>ae⟩
noncomputable def ty133:=mT t133 t133 false
theorem qt133:QT 133 ty133:=mt underlying133 type133
noncomputable def ty136:=mT t136 t136 false
theorem qt136:QT 136 ty136:=mt underlying136 type136
noncomputable def ty139:=mT t139 t139 false
theorem qt139:QT 139 ty139:=mt underlying139 type139
noncomputable def ty151:=mT t151 t57 false
theorem qt151:QT 151 ty151:=mt underlying151 type151
noncomputable def ty152:=mT t152 t152 true
theorem qt152:QT 152 ty152:=⟨underlying152,jD type152,fun _=>ae⟩
noncomputable def ty153:=mT t153 t153 false
theorem qt153:QT 153 ty153:=mt underlying153 type153
noncomputable def ty154:=mT t154 t153 false
theorem qt154:QT 154 ty154:=mt underlying154 type154
noncomputable def ty155:=mT t155 t155 false
theorem qt155:QT 155 ty155:=mt underlying155 type155
noncomputable def ty156:=mT t156 t155 false
theorem qt156:QT 156 ty156:=mt underlying156 type156
noncomputable def ty158:=mT t158 t158 false
theorem qt158:QT 158 ty158:=mt underlying158 type158
noncomputable def ty159:=mT t159 t158 true
theorem qt159:QT 159 ty159:=⟨underlying159,jD type159,fun _=>ae⟩
noncomputable def ty160:=mT t160 t160 false
theorem qt160:QT 160 ty160:=mt underlying160 type160
noncomputable def ty170:=mT t170 t170 false
theorem qt170:QT 170 ty170:=mt underlying170 type170
noncomputable def ty173:=mT t173 t173 false
theorem qt173:QT 173 ty173:=mt underlying173 type173
noncomputable def ty175:=mT t175 t175 false
theorem qt175:QT 175 ty175:=mt underlying175 type175
noncomputable def ty176:=mT t176 t175 false
theorem qt176:QT 176 ty176:=mt underlying176 type176
noncomputable def ty177:=mT t177 t177 false
theorem qt177:QT 177 ty177:=mt underlying177 type177
noncomputable def ty178:=mT t178 t178 false
theorem qt178:QT 178 ty178:=mt underlying178 type178
noncomputable def ty181:=mT t181 t181 false
theorem qt181:QT 181 ty181:=mt underlying181 type181
noncomputable def ty187:=mT t187 t187 false
theorem qt187:QT 187 ty187:=mt underlying187 type187
noncomputable def ty190:=mT t190 t190 true
theorem qt190:QT 190 ty190:=⟨underlying190,jD type190,fun _=>ae⟩
noncomputable def ty193:=mT t193 t193 false
theorem qt193:QT 193 ty193:=mt underlying193 type193
noncomputable def ty194:=mT t194 t194 false
theorem qt194:QT 194 ty194:=mt underlying194 type194
noncomputable def ty195:=mT t195 t194 false
theorem qt195:QT 195 ty195:=mt underlying195 type195
noncomputable def ty202:=mT t202 t202 false
theorem qt202:QT 202 ty202:=mt underlying202 type202
noncomputable def ty208:=mT t208 t208 false
theorem qt208:QT 208 ty208:=mt underlying208 type208
noncomputable def ty209:=mT t209 t209 false
theorem qt209:QT 209 ty209:=mt underlying209 type209
noncomputable def ty213:=mT t213 t213 false
theorem qt213:QT 213 ty213:=mt underlying213 type213
noncomputable def ty214:=mT t214 t213 false
theorem qt214:QT 214 ty214:=mt underlying214 type214
noncomputable def ty218:=mT t218 t218 false
theorem qt218:QT 218 ty218:=mt underlying218 type218
noncomputable def ty220:=mT t220 t220 false
theorem qt220:QT 220 ty220:=mt underlying220 type220
noncomputable def ty226:=mT t226 t226 false
theorem qt226:QT 226 ty226:=mt underlying226 type226
noncomputable def ty229:=mT t229 t229 false
theorem qt229:QT 229 ty229:=mt underlying229 type229
noncomputable def ty232:=mT t232 t232 false
theorem qt232:QT 232 ty232:=mt underlying232 type232
noncomputable def ty234:=mT t234 t234 false
theorem qt234:QT 234 ty234:=mt underlying234 type234
noncomputable def ty238:=mT t238 t238 false
theorem qt238:QT 238 ty238:=mt underlying238 type238
noncomputable def ty242:=mT t242 t242 false
theorem qt242:QT 242 ty242:=mt underlying242 type242
noncomputable def ty243:=mT t243 t243 false
theorem qt243:QT 243 ty243:=mt underlying243 type243
noncomputable def ty245:=mT t245 t245 false
theorem qt245:QT 245 ty245:=mt underlying245 type245
noncomputable def ty247:=mT t247 t247 false
theorem qt247:QT 247 ty247:=mt underlying247 type247
noncomputable def ty254:=mT t254 t254 false
theorem qt254:QT 254 ty254:=mt underlying254 type254
noncomputable def ty256:=mT t256 t256 false
theorem qt256:QT 256 ty256:=mt underlying256 type256
noncomputable def ty264:=mT t264 t264 false
theorem qt264:QT 264 ty264:=mt underlying264 type264
noncomputable def ty266:=mT t266 t266 false
theorem qt266:QT 266 ty266:=mt underlying266 type266
noncomputable def ty271:=mT t271 t271 false
theorem qt271:QT 271 ty271:=mt underlying271 type271
noncomputable def ty275:=mT t275 t275 false
theorem qt275:QT 275 ty275:=mt underlying275 type275
noncomputable def ty276:=mT t276 t276 false
theorem qt276:QT 276 ty276:=mt underlying276 type276
noncomputable def ty280:=mT t280 t280 false
theorem qt280:QT 280 ty280:=mt underlying280 type280
noncomputable def ty281:=mT t281 t280 false
theorem qt281:QT 281 ty281:=mt underlying281 type281
noncomputable def ty284:=mT t284 t284 false
theorem qt284:QT 284 ty284:=mt underlying284 type284
noncomputable def ty288:=mT t288 t288 false
theorem qt288:QT 288 ty288:=mt underlying288 type288
noncomputable def ty291:=mT t291 t291 false
theorem qt291:QT 291 ty291:=mt underlying291 type291
noncomputable def ty292:=mT t292 t291 false
theorem qt292:QT 292 ty292:=mt underlying292 type292
noncomputable def ty293:=mT t293 t293 false
theorem qt293:QT 293 ty293:=mt underlying293 type293
noncomputable def ty295:=mT t295 t295 false
theorem qt295:QT 295 ty295:=mt underlying295 type295
noncomputable def ty300:=mT t300 t300 true
theorem qt300:QT 300 ty300:=⟨underlying300,jD type300,fun _=>ae⟩
noncomputable def ty301:=mT t301 t301 false
theorem qt301:QT 301 ty301:=mt underlying301 type301
noncomputable def ty306:=mT t306 t306 false
theorem qt306:QT 306 ty306:=mt underlying306 type306
noncomputable def ty312:=mT t312 t312 false
theorem qt312:QT 312 ty312:=mt underlying312 type312
noncomputable def ty316:=mT t316 t316 true
theorem qt316:QT 316 ty316:=⟨underlying316,jD type316,fun _=>ae⟩
noncomputable def ty317:=mT t317 t317 false
theorem qt317:QT 317 ty317:=mt underlying317 type317
noncomputable def ty318:=mT t318 t318 false
theorem qt318:QT 318 ty318:=mt underlying318 type318
noncomputable def ty319:=mT t319 t318 false
theorem qt319:QT 319 ty319:=mt underlying319 type319
noncomputable def ty321:=mT t321 t321 true
theorem qt321:QT 321 ty321:=⟨underlying321,jD type321,fun _=>ae⟩
noncomputable def ty322:=mT t322 t322 false
theorem qt322:QT 322 ty322:=mt underlying322 type322
noncomputable def ty330:=mT t330 t330 false
theorem qt330:QT 330 ty330:=mt underlying330 type330
noncomputable def ty331:=mT t331 t330 false
theorem qt331:QT 331 ty331:=mt underlying331 type331
noncomputable def ty332:=mT t332 t332 false
theorem qt332:QT 332 ty332:=mt underlying332 type332
noncomputable def ty335:=mT t335 t335 false
theorem qt335:QT 335 ty335:=mt underlying335 type335
noncomputable def ty343:=mT t343 t343 false
theorem qt343:QT 343 ty343:=mt underlying343 type343
noncomputable def ty345:=mT t345 t3 true
theorem qt345:QT 345 ty345:=⟨underlying345,jD type345,fun _=>ae⟩
noncomputable def ty346:=mT t346 t346 false
theorem qt346:QT 346 ty346:=mt underlying346 type346
noncomputable def ty355:=mT t355 t355 false
theorem qt355:QT 355 ty355:=mt underlying355 type355
noncomputable def ty358:=mT t358 t3 false
theorem qt358:QT 358 ty358:=mt underlying358 type358
noncomputable def ty359:=mT t359 t359 false
theorem qt359:QT 359 ty359:=mt underlying359 type359
noncomputable def ty361:=mT t361 t361 false
theorem qt361:QT 361 ty361:=mt underlying361 type361
noncomputable def ty365:=mT t365 t365 false
theorem qt365:QT 365 ty365:=mt underlying365 type365
noncomputable def ty367:=mT t367 t367 false
theorem qt367:QT 367 ty367:=mt underlying367 type367
noncomputable def ty369:=mT t369 t369 false
theorem qt369:QT 369 ty369:=mt underlying369 type369
noncomputable def ty371:=mT t371 t300 false
theorem qt371:QT 371 ty371:=mt underlying371 type371
noncomputable def ty375:=mT t375 t375 false
theorem qt375:QT 375 ty375:=mt underlying375 type375
noncomputable def ty379:=mT t379 t379 false
theorem qt379:QT 379 ty379:=mt underlying379 type379
noncomputable def ty382:=mT t382 t382 false
theorem qt382:QT 382 ty382:=mt underlying382 type382
noncomputable def ty383:=mT t383 t382 false
theorem qt383:QT 383 ty383:=mt underlying383 type383
noncomputable def ty386:=mT t386 t386 false
theorem qt386:QT 386 ty386:=mt underlying386 type386
noncomputable def ty387:=mT t387 t387 false
theorem qt387:QT 387 ty387:=mt underlying387 type387
noncomputable def ty389:=mT t389 t389 false
theorem qt389:QT 389 ty389:=mt underlying389 type389
noncomputable def ty390:=mT t390 t390 false
theorem qt390:QT 390 ty390:=mt underlying390 type390
noncomputable def ty392:=mT t392 t392 false
theorem qt392:QT 392 ty392:=mt underlying392 type392
noncomputable def ty393:=mT t393 t393 false
theorem qt393:QT 393 ty393:=mt underlying393 type393
noncomputable def ty394:=mT t394 t393 false
theorem qt394:QT 394 ty394:=mt underlying394 type394
noncomputable def ty395:=mT t395 t395 false
theorem qt395:QT 395 ty395:=mt underlying395 type395
noncomputable def ty398:=mT t398 t398 false
theorem qt398:QT 398 ty398:=mt underlying398 type398
noncomputable def ty399:=mT t399 t399 false
theorem qt399:QT 399 ty399:=mt underlying399 type399
noncomputable def ty400:=mT t400 t399 false
theorem qt400:QT 400 ty400:=mt underlying400 type400
noncomputable def ty401:=mT t401 t401 false
theorem qt401:QT 401 ty401:=mt underlying401 type401
noncomputable def ty402:=mT t402 t402 false
theorem qt402:QT 402 ty402:=mt underlying402 type402
noncomputable def ty405:=mT t405 t405 false
theorem qt405:QT 405 ty405:=mt underlying405 type405
noncomputable def ty406:=mT t406 t406 false
theorem qt406:QT 406 ty406:=mt underlying406 type406
noncomputable def ty407:=mT t407 t406 false
theorem qt407:QT 407 ty407:=mt underlying407 type407
noncomputable def ty408:=mT t408 t5 false
theorem qt408:QT 408 ty408:=mt underlying408 type408
noncomputable def ty409:=mT t409 t5 false
theorem qt409:QT 409 ty409:=mt underlying409 type409
noncomputable def ty410:=mT t410 t410 false
theorem qt410:QT 410 ty410:=mt underlying410 type410
noncomputable def ty411:=mT t411 t21 false
theorem qt411:QT 411 ty411:=mt underlying411 type411
noncomputable def ty412:=mT t412 t21 false
theorem qt412:QT 412 ty412:=mt underlying412 type412
noncomputable def ty413:=mT t413 t413 false
theorem qt413:QT 413 ty413:=mt underlying413 type413
noncomputable def ty414:=mT t414 t413 false
theorem qt414:QT 414 ty414:=mt underlying414 type414
noncomputable def tt:Tr TI:=(.node (.node (.node .nil 0 ty0 (.node (.node .nil 1 ty1 .nil) 2 ty2 .nil)) 3 ty3 .nil) 4 ty4 (.node (.node (.node (.node .nil 5 ty5 (.node (.node .nil 6 ty6 .nil) 7 ty7 (.node .nil 8 ty8 .nil))) 9 ty9 (.node (.node (.node (.node (.node .nil 10 ty10 .nil) 12 ty12 (.node .nil 16 ty16 (.node .nil 17 ty17 .nil))) 20 ty20 .nil) 21 ty21 (.node .nil 22 ty22 .nil)) 23 ty23 .nil)) 24 ty24 (.node (.node (.node (.node .nil 25 ty25 .nil) 28 ty28 (.node .nil 32 ty32 .nil)) 33 ty33 (.node .nil 34 ty34 .nil)) 35 ty35 (.node (.node (.node .nil 37 ty37 (.node .nil 40 ty40 (.node .nil 44 ty44 .nil))) 45 ty45 (.node .nil 57 ty57 .nil)) 61 ty61 (.node (.node (.node .nil 62 ty62 .nil) 64 ty64 (.node .nil 65 ty65 .nil)) 66 ty66 (.node .nil 68 ty68 (.node .nil 69 ty69 .nil)))))) 72 ty72 (.node (.node (.node (.node (.node (.node .nil 82 ty82 .nil) 83 ty83 .nil) 84 ty84 (.node (.node (.node .nil 85 ty85 .nil) 87 ty87 (.node (.node .nil 95 ty95 .nil) 104 ty104 .nil)) 111 ty111 (.node (.node .nil 114 ty114 (.node .nil 120 ty120 .nil)) 122 ty122 (.node (.node .nil 133 ty133 .nil) 136 ty136 (.node .nil 139 ty139 .nil))))) 151 ty151 (.node .nil 152 ty152 (.node .nil 153 ty153 .nil))) 154 ty154 (.node (.node .nil 155 ty155 .nil) 156 ty156 (.node (.node (.node .nil 158 ty158 .nil) 159 ty159 (.node (.node .nil 160 ty160 (.node (.node .nil 170 ty170 .nil) 173 ty173 (.node .nil 175 ty175 .nil))) 176 ty176 .nil)) 177 ty177 (.node (.node (.node (.node .nil 178 ty178 .nil) 181 ty181 .nil) 187 ty187 .nil) 190 ty190 (.node .nil 193 ty193 (.node (.node .nil 194 ty194 .nil) 195 ty195 .nil)))))) 202 ty202 (.node (.node (.node (.node (.node .nil 208 ty208 .nil) 209 ty209 (.node .nil 213 ty213 .nil)) 214 ty214 (.node (.node (.node .nil 218 ty218 .nil) 220 ty220 (.node .nil 226 ty226 (.node .nil 229 ty229 .nil))) 232 ty232 (.node (.node .nil 234 ty234 .nil) 238 ty238 (.node .nil 242 ty242 .nil)))) 243 ty243 (.node (.node (.node (.node .nil 245 ty245 .nil) 247 ty247 .nil) 254 ty254 (.node (.node (.node .nil 256 ty256 .nil) 264 ty264 .nil) 266 ty266 (.node .nil 271 ty271 .nil))) 275 ty275 (.node (.node (.node .nil 276 ty276 (.node .nil 280 ty280 .nil)) 281 ty281 (.node .nil 284 ty284 (.node .nil 288 ty288 (.node .nil 291 ty291 .nil)))) 292 ty292 (.node (.node .nil 293 ty293 .nil) 295 ty295 .nil)))) 300 ty300 (.node (.node (.node (.node .nil 301 ty301 .nil) 306 ty306 (.node (.node .nil 312 ty312 .nil) 316 ty316 .nil)) 317 ty317 (.node (.node .nil 318 ty318 .nil) 319 ty319 .nil)) 321 ty321 (.node (.node (.node (.node (.node .nil 322 ty322 (.node .nil 330 ty330 .nil)) 331 ty331 (.node (.node .nil 332 ty332 .nil) 335 ty335 .nil)) 343 ty343 (.node .nil 345 ty345 (.node (.node .nil 346 ty346 .nil) 355 ty355 .nil))) 358 ty358 (.node (.node .nil 359 ty359 .nil) 361 ty361 (.node (.node .nil 365 ty365 .nil) 367 ty367 (.node .nil 369 ty369 .nil)))) 371 ty371 (.node (.node (.node (.node .nil 375 ty375 (.node .nil 379 ty379 (.node .nil 382 ty382 .nil))) 383 ty383 .nil) 386 ty386 (.node (.node .nil 387 ty387 .nil) 389 ty389 (.node .nil 390 ty390 .nil))) 392 ty392 (.node (.node (.node .nil 393 ty393 .nil) 394 ty394 (.node .nil 395 ty395 .nil)) 398 ty398 (.node (.node (.node .nil 399 ty399 .nil) 400 ty400 (.node .nil 401 ty401 .nil)) 402 ty402 (.node (.node (.node .nil 405 ty405 .nil) 406 ty406 (.node .nil 407 ty407 (.node .nil 408 ty408 .nil))) 409 ty409 (.node (.node .nil 410 ty410 (.node .nil 411 ty411 .nil)) 412 ty412 (.node .nil 413 ty413 (.node .nil 414 ty414 .nil)))))))))))))
theorem tt_all:AllT QT tt:=⟨⟨⟨True.intro,qt0,⟨⟨True.intro,qt1,True.intro⟩,qt2,True.intro⟩⟩,qt3,True.intro⟩,qt4,⟨⟨⟨⟨True.intro,qt5,⟨⟨True.intro,qt6,True.intro⟩,qt7,⟨True.intro,qt8,True.intro⟩⟩⟩,qt9,⟨⟨⟨⟨⟨True.intro,qt10,True.intro⟩,qt12,⟨True.intro,qt16,⟨True.intro,qt17,True.intro⟩⟩⟩,qt20,True.intro⟩,qt21,⟨True.intro,qt22,True.intro⟩⟩,qt23,True.intro⟩⟩,qt24,⟨⟨⟨⟨True.intro,qt25,True.intro⟩,qt28,⟨True.intro,qt32,True.intro⟩⟩,qt33,⟨True.intro,qt34,True.intro⟩⟩,qt35,⟨⟨⟨True.intro,qt37,⟨True.intro,qt40,⟨True.intro,qt44,True.intro⟩⟩⟩,qt45,⟨True.intro,qt57,True.intro⟩⟩,qt61,⟨⟨⟨True.intro,qt62,True.intro⟩,qt64,⟨True.intro,qt65,True.intro⟩⟩,qt66,⟨True.intro,qt68,⟨True.intro,qt69,True.intro⟩⟩⟩⟩⟩⟩,qt72,⟨⟨⟨⟨⟨⟨True.intro,qt82,True.intro⟩,qt83,True.intro⟩,qt84,⟨⟨⟨True.intro,qt85,True.intro⟩,qt87,⟨⟨True.intro,qt95,True.intro⟩,qt104,True.intro⟩⟩,qt111,⟨⟨True.intro,qt114,⟨True.intro,qt120,True.intro⟩⟩,qt122,⟨⟨True.intro,qt133,True.intro⟩,qt136,⟨True.intro,qt139,True.intro⟩⟩⟩⟩⟩,qt151,⟨True.intro,qt152,⟨True.intro,qt153,True.intro⟩⟩⟩,qt154,⟨⟨True.intro,qt155,True.intro⟩,qt156,⟨⟨⟨True.intro,qt158,True.intro⟩,qt159,⟨⟨True.intro,qt160,⟨⟨True.intro,qt170,True.intro⟩,qt173,⟨True.intro,qt175,True.intro⟩⟩⟩,qt176,True.intro⟩⟩,qt177,⟨⟨⟨⟨True.intro,qt178,True.intro⟩,qt181,True.intro⟩,qt187,True.intro⟩,qt190,⟨True.intro,qt193,⟨⟨True.intro,qt194,True.intro⟩,qt195,True.intro⟩⟩⟩⟩⟩⟩,qt202,⟨⟨⟨⟨⟨True.intro,qt208,True.intro⟩,qt209,⟨True.intro,qt213,True.intro⟩⟩,qt214,⟨⟨⟨True.intro,qt218,True.intro⟩,qt220,⟨True.intro,qt226,⟨True.intro,qt229,True.intro⟩⟩⟩,qt232,⟨⟨True.intro,qt234,True.intro⟩,qt238,⟨True.intro,qt242,True.intro⟩⟩⟩⟩,qt243,⟨⟨⟨⟨True.intro,qt245,True.intro⟩,qt247,True.intro⟩,qt254,⟨⟨⟨True.intro,qt256,True.intro⟩,qt264,True.intro⟩,qt266,⟨True.intro,qt271,True.intro⟩⟩⟩,qt275,⟨⟨⟨True.intro,qt276,⟨True.intro,qt280,True.intro⟩⟩,qt281,⟨True.intro,qt284,⟨True.intro,qt288,⟨True.intro,qt291,True.intro⟩⟩⟩⟩,qt292,⟨⟨True.intro,qt293,True.intro⟩,qt295,True.intro⟩⟩⟩⟩,qt300,⟨⟨⟨⟨True.intro,qt301,True.intro⟩,qt306,⟨⟨True.intro,qt312,True.intro⟩,qt316,True.intro⟩⟩,qt317,⟨⟨True.intro,qt318,True.intro⟩,qt319,True.intro⟩⟩,qt321,⟨⟨⟨⟨⟨True.intro,qt322,⟨True.intro,qt330,True.intro⟩⟩,qt331,⟨⟨True.intro,qt332,True.intro⟩,qt335,True.intro⟩⟩,qt343,⟨True.intro,qt345,⟨⟨True.intro,qt346,True.intro⟩,qt355,True.intro⟩⟩⟩,qt358,⟨⟨True.intro,qt359,True.intro⟩,qt361,⟨⟨True.intro,qt365,True.intro⟩,qt367,⟨True.intro,qt369,True.intro⟩⟩⟩⟩,qt371,⟨⟨⟨⟨True.intro,qt375,⟨True.intro,qt379,⟨True.intro,qt382,True.intro⟩⟩⟩,qt383,True.intro⟩,qt386,⟨⟨True.intro,qt387,True.intro⟩,qt389,⟨True.intro,qt390,True.intro⟩⟩⟩,qt392,⟨⟨⟨True.intro,qt393,True.intro⟩,qt394,⟨True.intro,qt395,True.intro⟩⟩,qt398,⟨⟨⟨True.intro,qt399,True.intro⟩,qt400,⟨True.intro,qt401,True.intro⟩⟩,qt402,⟨⟨⟨True.intro,qt405,True.intro⟩,qt406,⟨True.intro,qt407,⟨True.intro,qt408,True.intro⟩⟩⟩,qt409,⟨⟨True.intro,qt410,⟨True.intro,qt411,True.intro⟩⟩,qt412,⟨True.intro,qt413,⟨True.intro,qt414,True.intro⟩⟩⟩⟩⟩⟩⟩⟩⟩⟩⟩⟩⟩
noncomputable def tab:Tab:=⟨fun t=>tt.get t⟩
theorem tab_ok:qM Tryz.prog tab:=⟨fun t i h=>AllT.mem tt_all (t,i) (Tr.get_mem h)⟩
theorem mixed:Tryz.prog.follows .mixedOrders=true:=ae
end Go.Lens.Tb
end
section
namespace Go.Lens
variable [Lz]
def bsO (l:List UInt8):ByteArray:=⟨⟨l⟩⟩
theorem bsO_inj {a b:List UInt8}:bsO a=bsO b↔a=b:=by
 constructor
 ·intro h;have:=congrArg (fun x:ByteArray=>x.data.toList) h;simpa [bsO] using this
 rintro rfl;rfl
section
variable {P:Program} {Y:Tab} [qM P Y] {nb:Nat} {s:St} {o:Oper} {val:DV} {m:List (Nat×MO)} {rd:List Nat}
theorem hasM_none {ms:List (Nat×MO)} {h:Nat} (e:j8 ms h=false):qw ms h=none:=by
 unfold j8 at e
 cases hq:qw ms h with
 | none=>rfl
 | some o=>rw[hq] at e;cases e
theorem ev1_agree {σ:St} {xs:List Operand} (h:∀ t∈tmpsOf xs,jx σ.tm t=jx s.tm t) {x:Operand} (hx:x∈xs):ev1 σ x=ev1 s x:=by
 unfold ev1
 cases x with
 | tmp t=>simp only[evS];rw[h t (tmpsOf_mem hx)]
 | _=>rfl
theorem kI {G:Gh} {a:Act} {w:World} (I:Inv G s.vw a w) (x:Operand):qx G (G.rd w) (ev1 s x) (a.eval x):=RelDV_evD (j7 I x)
theorem km.of (H:∀ (σ:St) (G:Gh) (a:Act) (w:World),(∀ x∈o.op.operands.toList,qx G (G.rd w) (ev1 s x) (a.eval x))->(∀ h,(h∈rd\/h∈m.map (·.1))->qw σ.ms h=qw s.ms h)->Inv G σ.vw a w->
  ∃ r w' G',((execOp a.eval o).run P w=.ok (.value r) w'\/(execOp a.eval o).run P w=.ok .skip w'/\r=undef)/\Stepped G w (qw σ.ms) val m G' w' r):km P s o val m rd:=by
 intro σ G a w next Q h1 h2 I hn
 obtain⟨r,w',G',hrun,S⟩:=H σ G a w (fun x hx=>by rw[<-ev1_agree h1 hx];exact kI I x) h2 I
 have:=hn r w' G' S
 have hnd:∀ c,o.op≠.defer c:=by
  rcases hrun with hrun|⟨hrun,_⟩
  ·exact notDefer hrun ao
  exact notDefer hrun ao
 refine wpR_of ?_ hnd
 unfold Oper.wp
 rcases hrun with hrun|⟨hrun,rfl⟩
 ·rw[hrun];exact this
 rw[hrun];exact this
variable {dst:Option Tmp} {ty:TypeId} {pos:String} {af:Array Edge} {gd:Option (Nat×Bool)} {t:TypeId} {x y z:Operand}
theorem Gh.qU (G:Gh) (h:Nat):G.turn h (G.ρ h)=G:=by
 unfold Gh.turn
 congr
 funext k
 split
 ·rename_i e;rw[e]
 rfl
end
theorem run_pick {P:Program} {w:World} {n:Nat} (hn:0<n):∃ j d,(choose (.mapNext n)).run P w=.ok j { w with drawn:=d }/\j<n/\w.drawn<=d:=by
 rw[run_choose]
 by_cases hf:(Question.mapNext n).forced=true
 ·exact⟨0,w.drawn,by rw[if_pos hf],hn,zC _⟩
 exact⟨w.tape w.drawn (.mapNext n)%n,w.drawn+1,by rw[if_neg hf];rfl,Nat.mod_lt _ hn,Nat.le_succ _⟩
def SubL (ms:List (Nat×MO)):List (Nat×MO)->Prop
 | []=>True
 | p::l=>qw ms p.1=some p.2/\SubL ms l
theorem SubL.look {ms:List (Nat×MO)}:∀ {l:List (Nat×MO)},SubL ms l->∀ {h:Nat} {o:MO},qw l h=some o->qw ms h=some o/\h∈l.map (·.1)
 | [],_,h,o,e=>by cases e
 | p::l,H,h,o,e=>by
  rw[qG] at e
  split at e
  ·rename_i hq
   cases e
   rw[<-hq];exact⟨H.1,by simp⟩
  have:=H.2.look e
  exact⟨this.1,by simp only[zA,zG];exact .inr this.2⟩
section
variable {P:Program} {Y:Tab} [qM P Y] {nb:Nat} {s:St} {dst:Option Tmp} {ty u:TypeId} {pos:String} {af:Array Edge} {gd:Option (Nat×Bool)} {t:TypeId} {x y z:Operand}
theorem B.q6 {f:Operand} {args:Array Operand} {ats:Array TypeId} {fid:FuncId} {first caps ds:List DV} {val:DV} {l out:List (Nat×MO)} (H:qD P fid ds (qw l) val out) (hf:tgtX (ev1 s f)=some (fid,first,caps))
  (hds:first++args.toList.map (ev1 s)++caps=ds) (hsub:SubL s.ms l) (hcl:jm l=true) (hnew:out.all (fun p=>j8 l p.1||!j8 s.ms p.1)=true):Body P Y nb s ⟨dst,.call ⟨.value f,args,ats⟩,ty,pos,af,gd⟩ val out (l.map (·.1)):=by
 refine .inr fun σ G a w next Q h1 h2 I hn=>?_
 have hops:(Op.call ⟨.value f,args,ats⟩).operands.toList=f::args.toList:=call_ops
 rw[hops] at h1
 have hev:∀ z∈f::args.toList,ev1 σ z=ev1 s z:=fun z hz=>ev1_agree h1 hz
 have hF:qx G (G.rd w) (ev1 s f) (a.eval f):=by rw[<-hev f ao];exact kI I f
 obtain⟨vx,vy,ef,g1,g2⟩:=tgtX_sound hf hF
 have hargs:qC G (G.rd w) (args.toList.map (ev1 s)) (args.toList.map a.eval):=by
  rw[<-List.map_congr_left (f:=ev1 σ) (g:=ev1 s) (fun z hz=>hev z (by simp[hz]))]
  have:∀ l:List Operand,qC G (G.rd w) (l.map (ev1 σ)) (l.map a.eval):=by
   intro l
   induction l with
   | nil=>simp[qC]
   | cons z l ih=>simp only[zA,qC];exact⟨_,_,rfl,kI I z,ih⟩
  exact this _
 have hall:qC G (G.rd w) ds (vx++args.map a.eval++vy).toList:=by
  rw[<-hds]
  simp only[Array.toList_append,Array.toList_map]
  exact (g1.append hargs).append g2
 have HL:qD P fid ds (qw σ.ms) val out:=by
  refine H.frame (fun h o e=>?_) (fun k o h e hh=>jP hcl k o e h hh) (fun h hh e=>?_)
  ·obtain⟨e1,e2⟩:=hsub.look e
   rw[h2 h (.inl e2)];exact e1
  rw[h2 h (.inr hh)];exact allHas hnew h hh e
 have hexec:(execOp a.eval ⟨dst,.call ⟨.value f,args,ats⟩,ty,pos,af,gd⟩).run P w=(callFunc fid (vx++args.map a.eval++vy)).run P w:=by
  simp only[execOp,resolve,ef,Deferred.ofValue,qt,qu,qr,invoke]
 refine wpR_of ?_ ao
 unfold Oper.wp
 rcases HL.call G w _ I.mem hall with ⟨he,hcalls⟩|⟨r,w',he,G',S⟩
 ·rw[hexec,he,Oper.upon_enter]
  refine Calls.mono hcalls ?_
  rintro e w'' ⟨r,rfl,G',S⟩
  exact hn r w'' G' S
 rw[hexec,he]
 exact hn r w' G' S
theorem ev1_refs {σ:St} {G:Gh} {a:Act} {w:World} (I:Inv G σ.vw a w) (x:Operand):∀ h∈(ev1 σ x).refs,∃ o,qw σ.ms h=some o:=by
 intro h hh
 unfold ev1 at hh
 rw[refs_evD] at hh
 cases x with
 | tmp t=>exact I.refsT t h hh
 | const v=>simp only[evS,kY] at hh;cases hh
 | global g=>simp only[evS,DV.refs] at hh;cases hh
 | func f=>simp only[evS,DV.refs] at hh;cases hh
end
section
variable {P:Program} {Y:Tab} [qM P Y] {nb:Nat} {s:St} {dst:Option Tmp} {ty u:TypeId} {pos:String} {af:Array Edge} {gd:Option (Nat×Bool)} {t:TypeId} {x y z:Operand}
theorem B.makeSl {α:Type} {enc:α->List PV} {z0:α} {n m d h sz bs:Nat} {mi:Int} {e:TypeId} {i:TypeInfo} {zv:Value} (hx:ev1 s x=lit (.int .i64 (n:Int))) (hy:ev1 s y=lit (.int .i64 mi)) (hmi:mi=(m:Int)) (und:Y.underlying t=some (.slice e)) (hi:Y.info? e=some i)
  (hz:i.zero=some zv) (hc:cellPVs zv.cells.toList=some (enc z0)) (hq:(Nat.blt 0 i.size&&Nat.beq zv.cells.size i.size&&Nat.beq i.size sz)=true) (hb:i.bytes=bs)
  (hle:n<=m/\bs*m<=281474976710656/\m<=9223372036854775807) (hh:nameOf nb s.ms (some d)=h) (hm:j8 s.ms h=false) :
  Body P Y nb s ⟨some d,.makeSlice t x y,ty,pos,af,gd⟩ (.aref h 0) [(h,.arr 0 sz e ((List.replicate n z0).map enc))] []:=by
 subst hb
 simp only[zj,Nat.beq_eq,Nat.blt_eq] at hq
 obtain⟨⟨k1,k2⟩,rfl⟩:=hq
 refine B.of0 (val0:=.aref h 0) (m0:=[(h,.arr 0 i.size e ((List.replicate n z0).map enc))]) (lo:=0) (nm:=h) (kl P) ?_ ?_ (Frz.refl _ _ _) ?_
 ·intro q hq
  have:q=x\/q=y:=by simpa [Op.operands] using hq
  rcases this with rfl|rfl
  ·rw[hx];rfl
  rw[hy];rfl
 ·have e1:evU (tmpsOf [x,y]) s x=_:=(qW ao).trans hx
  have e2:evU (tmpsOf [x,y]) s y=_:=(qW ao).trans hy
  have hv:effV Y h (some d) (.makeSlice t x y) (evU (tmpsOf [x,y]) s) (qw [])=makeSliceV Y h t (evU (tmpsOf [x,y]) s x) (evU (tmpsOf [x,y]) s y) (qw []):=rfl
  show (match effV Y h (some d) (.makeSlice t x y) (evU (tmpsOf [x,y]) s) (qw []) with|some ⟨true,v,m⟩=>some (v,m)|_=>none)=_
  rw[hv,e1,e2,hmi]
  have hl:(qw ([]:List (Nat×MO)) h).isNone=true:=rfl
  have hg:decide (0<=(n:Int)/\(n:Int)<=(m:Int)/\(i.bytes:Int)*(m:Int)<=281474976710656/\(m:Int)<=9223372036854775807)=true:=by
   apply zl
   refine⟨aa,aa,?_,aa⟩
   have:=hle.2.1
   rw[<-Int.natCast_mul];omega
  simp only[makeSliceV,lit,und,hi,hz,hc,hl,k1,k2,decide_true,Bool.and_self,qp,hg,zU,List.map_replicate]
 simp[hm]
theorem Zc.ctx2 {G:Gh} {w:World} {look:Nat->Option MO} (M:Zc G look w) {ev:Operand->DV} {ρ:Operand->Value} (h1:∀ x,qx G (G.rd w) (ev x) (ρ x)) (h2:∀ x,∀ h∈(ev x).refs,∃ o,look h=some o):Ctx G w ρ ev look look:=by
 refine⟨⟨h1,M.ms,M.readable.1,M.readable.2⟩,fun _ _ h=>h,?_,M.fresh⟩
 rintro h (⟨x,hx⟩|⟨k,o,ho,hh⟩)
 ·exact h2 x h hx
 exact M.refsM k o h ho hh
end
def dn:DV->Option PV
 | .nils=>some (.slice [])
 | .pv p=>some p
 | _=>none
def dnL:List DV->Option (List PV)
 | []=>some []
 | d::ds=>match dn d,dnL ds with
  | some p,some ps=>some (p::ps)
  | _,_=>none
theorem dn_ok {G:Gh} {R:Rd} {d:DV} {p:PV} {v:Value} (h:dn d=some p) (hv:qx G R d v):qN R p v:=by
 cases d with
 | nils=>
  cases h
  simp only[qx] at hv
  subst hv
  simp only[qN]
  exact⟨none,0,rfl,zC _,.inl trivial⟩
 | pv q=>cases h;simpa only[qx] using hv
 | _=>cases h
theorem dnL_ok {G:Gh} {R:Rd}:∀ {ds:List DV} {ps:List PV} {vs:List Value},dnL ds=some ps->qC G R ds vs->qy R ps vs
 | [],ps,vs,h,hv=>by
  cases h
  simpa only[qC,qy] using hv
 | d::ds,ps,vs,h,hv=>by
  simp only[dnL] at h
  split at h
  ·rename_i p q h1 h2
   cases h
   simp only[qC] at hv
   obtain⟨v,vs',rfl,k1,k2⟩:=hv
   simp only[qy]
   exact⟨v,vs',rfl,dn_ok h1 k1,dnL_ok h2 k2⟩
  cases h
theorem Frz.aggN (l:List (Nat×MO)) {ds:List DV} {ps:List PV} (hd:dnL ds=some ps):Frz l (.agg ds) [] (.pv (.agg ps)) []:=by
 intro G w G1 w1 r M S
 have hv:=S.hval
 simp only[qx] at hv
 obtain⟨vs,rfl,ho,hvs⟩:=hv
 refine⟨G1,{ S with hval:=?_,refs:=by simp[DV.refs] }⟩
 simp only[qx,qN]
 exact⟨vs,rfl,ho,dnL_ok hd hvs⟩
theorem relDVs_pv {G:Gh} {R:Rd}:∀ {ps:List PV} {vs:List Value},qy R ps vs->qC G R (ps.map .pv) vs
 | [],vs,h=>by simpa only[qC,qy,z6] using h
 | p::ps,vs,h=>by
  simp only[qy] at h
  obtain⟨v,vs',rfl,k1,k2⟩:=h
  simp only[qC,zA]
  exact⟨v,vs',rfl,by simpa only[qx] using k1,relDVs_pv k2⟩
theorem Frz.boxN (l:List (Nat×MO)) {h:Nat} {T:TypeId} {ds:List DV} {ps:List PV} (hd:dnL ds=some ps):Frz l (.bref h 0) [(h,.box T ds)] (.bref h 0) [(h,.box T (ps.map .pv))]:=by
 intro G w G1 w1 r M S
 have hb:=S.hms h _ (by simp:(h,MO.box T ds)∈[(h,MO.box T ds)])
 refine⟨G1,{ S with hms:=?_,old:=by simpa using S.old,own:=by simpa using S.own,refs:=by simpa using S.refs,refsM:=?_ }⟩
 ·intro k o hk
  simp only[zg,zz] at hk
  obtain⟨rfl,rfl⟩:=hk
  simp only[qY] at hb ⊢
  obtain⟨e1,b,c,e2,e3,e4,e5,e6⟩:=hb
  exact⟨e1,b,c,e2,e3,e4,e5,relDVs_pv (dnL_ok hd e6)⟩
 intro k o hk h' hh
 simp only[zg,zz] at hk
 obtain⟨rfl,rfl⟩:=hk
 simp only[MO.refs,refsL_pv] at hh
 cases hh
def nz:DV->DV
 | .nils=>.pv (.slice [])
 | d=>d
theorem nz_ok {G:Gh} {R:Rd} {d:DV} {v:Value} (h:qx G R d v):qx G R (nz d) v:=by
 unfold nz
 split
 ·simp only[qx];exact dn_ok Z h
 exact h
theorem nz_refs (d:DV):(nz d).refs=d.refs:=by
 unfold nz
 split
 ·simp[DV.refs]
 rfl
theorem nzL_ok {G:Gh} {R:Rd}:∀ {ds:List DV} {vs:List Value},qC G R ds vs->qC G R (ds.map nz) vs
 | [],_,h=>h
 | d::ds,vs,h=>by
  simp only[qC] at h
  obtain⟨v,vs',rfl,k1,k2⟩:=h
  simp only[qC,zA]
  exact⟨v,vs',rfl,nz_ok k1,nzL_ok k2⟩
theorem nzL_refs:∀ ds:List DV,DV.qP (ds.map nz)=DV.qP ds
 | []=>rfl
 | d::ds=>by simp only[zA,DV.qP,nz_refs,nzL_refs ds]
theorem qD.nz {P:Program} {f:FuncId} {ds ds1:List DV} {look:Nat->Option MO} {val:DV} {ms:List (Nat×MO)} (H:qD P f ds1 look val ms) (e:ds.map Lens.nz=ds1):qD P f ds look val ms:=by
 subst e
 exact⟨fun k hk=>H.refs k (by rw[nzL_refs];exact hk),fun G w vs M hv=>H.call G w vs M (nzL_ok hv)⟩
def PostL (Y:Tab) (F:FnI) (lo:Nat) (l:List (Nat×MO)) (val:DV) (out:List (Nat×MO)) (e:Exit) (s:St):Prop:=(e=.normal\/e=.ret)/\closeX Y F lo l s=some (val,out)
theorem q5 {Y:Tab} {F:FnI} {lo:Nat} {l:List (Nat×MO)} {val val0:DV} {out out0:List (Nat×MO)} {s:St} {e:Exit} (he:e=.normal\/e=.ret) (h:closeX Y F lo l s=some (val0,out0)) (hv:val0=val) (ho:out0=out):PostL Y F lo l val out e s:=⟨he,by rw[h,hv,ho]⟩
theorem callOk_ofL {P:Program} {Y:Tab} [qM P Y] {F:FnI} {f:FuncId} {fn:Func} {c:Code} (lo:Nat) (l:List (Nat×MO)) (hf:P.funcs[f]? =some fn) (hb:fn.body=some c) (hn:fn.ntmps=F.n) (hr:fn.results=F.res) (he:∀ args w,(callFunc f args).run P w=.ok (.enter f args) w)
  {ds:List DV} {val:DV} {out:List (Nat×MO)} (hl:ds.length<=F.n) (hrf:(DV.qP ds).all (j8 l)=true) (hnb:l.all (fun p=>Nat.blt p.1 lo)=true)
  (h:TK P F.n lo (PostL Y F lo l val out) c [] ⟨zipT 0 ds,l⟩):qD P f ds (qw l) val out:=by
 refine CallR.ok (CallR.of (Y:=Y) (F:=F) (lo:=lo) hf hb hn hr he hl (fun h hh=>ke.1 (zr.1 hrf h hh)) (fun h o e=>by have:=zr.1 hnb _ (jt e);simpa using this) (T.mono h ?_))
 rintro e s' ⟨h1,h2⟩
 exact⟨h1,val,out,h2,rfl,rfl⟩
end Go.Lens
end
section
namespace Go.Lens.Tb
open Go.Proofs
abbrev pI (x:Int):PV:=.lit (.int .i64 x)
abbrev pB (x:Bool):PV:=.lit (.bool x)
abbrev pS (x:ByteArray):PV:=.lit (.string x)
abbrev pL {α:Type} (f:α->List PV) (l:List α):PV:=.slice (List.map f l)
abbrev vI (x:Int):DV:=.pv (.lit (.int .i64 x))
abbrev vB (x:Bool):DV:=.pv (.lit (.bool x))
abbrev vS (x:ByteArray):DV:=.pv (.lit (.string x))
abbrev vL {α:Type} (f:α->List PV) (l:List α):DV:=.pv (.slice (List.map f l))
theorem RO [Lz] {P:Program} {Y:Tab} [qM P Y] {nb:Nat} {ops:Array Oper} {s:St} {dst:Option Tmp} {op:Op} {ty:TypeId} {pos:String} {af:Array Edge} {dr:Bool} {os:List Oper} {acc:List Ef} {Q:St->Prop} {val:DV} {m:List (Nat×MO)} {rd:List Nat}
    (h:Body P Y nb s ⟨dst,op,ty,pos,af,none⟩ val m rd) (k:RG P Y nb ops dr os (stp s ⟨dst,val,m,rd⟩) (acc++[⟨dst,val,m,rd⟩]) Q):RG P Y nb ops dr (⟨dst,op,ty,pos,af,none⟩::os) s acc Q:=
  RG.cons (EfR.on Z h) k
theorem agT {tm:List (Nat×DV)}:∀ {l:List (Nat×DV)},l.map (fun p=>jx tm p.1)=l.map (fun p=>p.2)->AgT tm l
  | [],_=>trivial
  | p::l,h=>by
    simp only[zA,List.cons.injEq] at h
    exact⟨h.1,agT h.2⟩
theorem agM {ms:List (Nat×MO)}:∀ {l:List (Nat×MO)},l.map (fun p=>qw ms p.1)=l.map (fun p=>some p.2)->AgM ms l
  | [],_=>trivial
  | p::l,h=>by
    simp only[zA,List.cons.injEq] at h
    exact⟨h.1,agM h.2⟩
theorem sb [Lz] {nb:Nat} {s S:St} (h1:S.tm.map (fun p=>jx s.tm p.1)=S.tm.map (fun p=>p.2)) (h2:S.ms.map (fun p=>qw s.ms p.1)=S.ms.map (fun p=>some p.2))
    (h3:(jm S.ms&&S.tm.all (fun p=>p.2.refs.all (j8 S.ms))&&s.ms.all (fun p=>Nat.ble nb p.1||j8 S.ms p.1))=true):Sub nb s S:=⟨agT h1,agM h2,h3⟩
section
variable [Lz] [Fc] {P:Program} {n nb:Nat} {Q:Exit->St->Prop} {K:List Fr} {s:St} {x y:Code} {id:Nat}
theorem a1 (h:TK P n nb Q x K s):PK P n nb Q (.seq x::K) .normal s:=PK.seq h
theorem a2 (h:PK P n nb Q K .normal s):PK P n nb Q (.blk id::K) .normal s:=PK.blk h
theorem a3 (h:TK P n nb Q x (.seq y::K) s):TK P n nb Q (.seq x y) K s:=TK.seq h
theorem a4 (h:TK P n nb Q x (.blk id::K) s):TK P n nb Q (.block id x) K s:=TK.block h
theorem a5 (h:PK P n nb Q K .normal s):TK P n nb Q .skip K s:=TK.skip h
end
inductive Cf [Lz] where
 | t (x:Code) (K:List Fr)
 | p (K:List Fr)
def adv [Lz]:Nat->Cf->Cf
 | 0,c=>c
 | k+1,.p K=>match K with
  | .seq x::K=>adv k (.t x K)
  | .blk _::K=>adv k (.p K)
  | K=>.p K
 | k+1,.t x K=>match x with
  | .seq x y=>adv k (.t x (.seq y::K))
  | .block i x=>adv k (.t x (.blk i::K))
  | .skip=>adv k (.p K)
  | x=>.t x K
def CK [Lz] [Fc] (P:Program) (n nb:Nat) (Q:Exit->St->Prop) (s:St):Cf->Prop
 | .t x K=>TK P n nb Q x K s
 | .p K=>PK P n nb Q K .normal s
theorem adv_ok [Lz] [Fc] {P:Program} {n nb:Nat} {Q:Exit->St->Prop} {s:St}:∀ {k:Nat} {c:Cf},CK P n nb Q s (adv k c)->CK P n nb Q s c
 | 0,_,h=>h
 | k+1,.p K,h=>by
  unfold adv at h
  split at h
  ·rename_i x K
   show PK P n nb Q (.seq x::K) .normal s
   exact PK.seq (adv_ok (c:=.t x K) h)
  ·rename_i i K
   show PK P n nb Q (.blk i::K) .normal s
   exact PK.blk (adv_ok (c:=.p K) h)
  exact h
 | k+1,.t x K,h=>by
  unfold adv at h
  split at h
  ·rename_i x y
   show TK P n nb Q (.seq x y) K s
   exact TK.seq (adv_ok (c:=.t x (.seq y::K)) h)
  ·rename_i i x
   show TK P n nb Q (.block i x) K s
   exact TK.block (adv_ok (c:=.t x (.blk i::K)) h)
  ·show TK P n nb Q .skip K s
   exact TK.skip (adv_ok (c:=.p K) h)
  exact h
theorem Ap [Lz] [Fc] {P:Program} {n nb:Nat} {Q:Exit->St->Prop} {s:St} {y:Code} {K M:List Fr} (e:adv 40 (.p K)=.t y M) (h:TK P n nb Q y M s):PK P n nb Q K .normal s:=adv_ok (c:=.p K) (k:=40) aX
section
variable [Lz] {P:Program} {Y:Tab} [qM P Y] {nb:Nat} {ops:Array Oper} {s:St} {dst:Option Tmp} {ty:TypeId} {pos:String} {af:Array Edge} {dr:Bool} {os:List Oper} {acc:List Ef} {Q:St->Prop}
theorem ag {x:Operand} {p:PV} (h:ev1 s x=.pv p) (k:RG P Y nb ops dr os (stp s ⟨dst,.pv p,[],[]⟩) (acc++[⟨dst,.pv p,[],[]⟩]) Q):RG P Y nb ops dr (⟨dst,.assign x,ty,pos,af,none⟩::os) s acc Q:=RO (B.assign h) k
end
theorem nB {a b:Nat} (h:Nat.ble a b=true):a<=b:=zZ h
instance iTab [Lz]:qM Tryz.prog tab:=tab_ok
section
variable [Lz]
theorem cO {f:FuncId} {F:FnI} {c:Code} {ds:List DV} {val:DV} (q:QF f F) (hb:F.body=some c) (hl:ds.length<=F.n) (hr:DV.qP ds=[]) (h:TK Tryz.prog F.n 1 (Post tab F 1 val) c [] ⟨zipT 0 ds,[]⟩):qD Tryz.prog f ds (qw []) val []:=by
  obtain⟨fn,f1,f2,f3,f4,_,f6⟩:=q
  exact callOk_of (Y:=tab) (F:=F) f1 (f2.trans hb) f3 f4 f6 hl hr h
section
variable {P:Program} {Y:Tab} [qM P Y] {nb:Nat} {ops:Array Oper} {s:St} {dr:Bool} {o:Oper} {os:List Oper} {acc:List Ef} {Q:St->Prop} {val:DV} {m:List (Nat×MO)} {rd:List Nat}
theorem RS {c:Bool} (hg:gcond ops s o.guard=some c) (h:c=true->Body P Y nb s o val [] rd) (hr:refsIn s o val=true) (k:RG P Y nb ops dr os (stp s ⟨o.dst,.gd c val,[],rd⟩) (acc++[⟨o.dst,.gd c val,[],rd⟩]) Q):RG P Y nb ops dr (o::os) s acc Q:=RG.cons (EfR.sym hg h hr) k
theorem RT (hg:gcond ops s o.guard=some true) (h:Body P Y nb s o val m rd) (k:RG P Y nb ops dr os (stp s ⟨o.dst,val,m,rd⟩) (acc++[⟨o.dst,val,m,rd⟩]) Q):RG P Y nb ops dr (o::os) s acc Q:=RG.cons (EfR.on hg h) k
theorem RF (hg:gcond ops s o.guard=some false) (k:RG P Y nb ops dr os (stp s ⟨o.dst,.gd false (lit (.bool false)),[],[]⟩) (acc++[⟨o.dst,.gd false (lit (.bool false)),[],[]⟩]) Q):RG P Y nb ops dr (o::os) s acc Q:=RG.cons (EfR.off hg) k
end
section
variable [Fc] {n nb:Nat} {Q:Exit->St->Prop} {K M:List Fr} {x y:Code} {id:Nat} {ops:Array Oper} {dr:Bool} {s:St} {P:Program} {Y:Tab} [qM P Y] {ops':Array Oper} {acc:List Ef}
theorem lf (h:Q .ret s):TK P n nb Q .ret K s:=TK.ret (PK.ret h)
theorem tn (S:St) (h1:S.tm.map (fun p=>jx s.tm p.1)=S.tm.map (fun p=>p.2)) (h2:S.ms.map (fun p=>qw s.ms p.1)=S.ms.map (fun p=>some p.2)) (h3:(jm S.ms&&S.tm.all (fun p=>p.2.refs.all (j8 S.ms))&&s.ms.all (fun p=>Nat.ble nb p.1||j8 S.ms p.1))=true) (k:TK P n nb Q x K S):TK P n nb Q x K s:=TK.norm S (sb h1 h2 h3) k
end
end
structure Tgt where
  name:ByteArray
  bright:Int
  place:Int
  length:Int
  from_:Int
  to:Int
  limit:Int
instance:Inhabited Tgt:=⟨⟨⟨#[]⟩,0,0,0,0,0,0⟩⟩
abbrev eI (n:Int):List PV:=[.lit (.int .i64 n)]
def outF (n low high:Int):Bool:=decide (n<low)||decide (high<n)
def qR (b:Bool) (e:Int):Int:=bif b then e else 0
def qF (n low high:Int):Int:=qR (outF n low high) 3
def qB:List Int->Int
  | []=>0
  | e::l=>if e=0 then qB l else e
theorem bif_or (a b:Bool):(bif a then true else b)=(a||b):=by cases a<;>rfl
theorem drop_at {α:Type} (l:List α) (k:Nat) (z:α) (h:k<l.length):l.drop k=l.getD k z::l.drop (k+1):=by
  rw[List.drop_eq_getElem_cons h,ze,zm h];rfl
theorem li {k:IntKind} {a b:Int} (h:a=b):(DV.pv (.lit (.int k a)))=.pv (.lit (.int k b)):=by rw[h]
theorem lb {a b:Bool} (h:a=b):(DV.pv (.lit (.bool a)))=.pv (.lit (.bool b)):=by rw[h]
theorem ls {a b:ByteArray} (h:a=b):(DV.pv (.lit (.string a)))=.pv (.lit (.string b)):=by rw[h]
theorem lsl {α:Type} {enc:α->List PV} {a b:List α} (h:a=b):(DV.pv (.slice (List.map enc a)))=.pv (.slice (List.map enc b)):=by rw[h]
theorem kh {a b c d:DV} (h:a=b) (k:c=d):DV.tup [a,c]=.tup [b,d]:=by rw[h,k]
theorem tup3 {a b c d e f:DV} (h:a=b) (k:c=d) (m:e=f):DV.tup [a,c,e]=.tup [b,d,f]:=by rw[h,k,m]
section
variable [Lz]
section
variable {P:Program} {Y:Tab} {nb:Nat} {s:St} {dst:Option Tmp} {ty:TypeId} {pos:String} {af:Array Edge} {gd:Option (Nat×Bool)} {c x y:Operand} {x' y' sx sy:Bool}
theorem B.pkT (hc:ev1 s c=lit (.bool true)) (hrx:(evS s x).refs=[]) (hry:(evS s y).refs=[]) (hx:gdBool (ev1 s x)=some (true,x')) (hy:gdBool (ev1 s y)=some (sy,y')):Body P Y nb s ⟨dst,.pick c x y,ty,pos,af,gd⟩ (lit (.bool x')) [] []:=B.pick hc hrx hry hx hy rfl
theorem B.pkF (hc:ev1 s c=lit (.bool false)) (hrx:(evS s x).refs=[]) (hry:(evS s y).refs=[]) (hx:gdBool (ev1 s x)=some (sx,x')) (hy:gdBool (ev1 s y)=some (true,y')):Body P Y nb s ⟨dst,.pick c x y,ty,pos,af,gd⟩ (lit (.bool y')) [] []:=B.pick hc hrx hry hx hy rfl
end
def nilM:MO->Bool
 | .box _ ds=>ds.any fun d=>match d with| .nils=>true|_=>false
 | _=>false
def cmpQ (op:BinOp) (a b:Int):Option Bool:=match op with
 | .lss=>some (decide (a<b))
 | .leq=>some (decide (a<=b))
 | .gtr=>some (decide (b<a))
 | .geq=>some (decide (b<=a))
 | .eql=>some (decide (a=b))
 | .neq=>some (decide (a≠b))
 | _=>none
def isSl:Operand->Bool
 | .const (.slice _ _ _)=>true
 | _=>false
noncomputable def effQ (nb:Nat) (s:St) (o:Oper):Option (DV×List (Nat×MO)×List Nat):=
 match o.guard with
 | some _=>none
 | none=>match o.op with
  | .move x=>match ev1 s x with
   | .pv p=>some (.pv p,[],[])
   | .nils=>none
   | _=>bodyX tab nb s o
  | .assign x=>match ev1 s x with
   | .pv p=>some (.pv p,[],[])
   | .nils=>none
   | _=>bodyX tab nb s o
  | .unOp .not _ x=>match ev1 s x with
   | .pv (.lit (.bool b))=>some (lit (.bool (!b)),[],[])
   | _=>none
  | .binOp op _ x y _=>match isSl y with
   | true=>none
   | false=>match ev1 s x with
   | .pv (.lit (.int k a))=>match ev1 s y with
    | .pv (.lit (.int k' b))=>bif decide (k=k') then match cmpQ op a b with
      | some c=>some (lit (.bool c),[],[])
      | none=>none
     else none
    | _=>none
   | _=>none
  | .load t x=>match ev1 s x with
   | .pv (.box (p::cs))=>match aggT tab t with
    | some false=>match szT tab t with
     | some _=>some (.pv p,[],[])
     | none=>none
    | some true=>match szT tab t with
     | some n=>bif Nat.ble n (p::cs).length then some (.pv (.agg ((p::cs).take n)),[],[]) else none
     | none=>none
    | none=>none
   | .bref _ _=>bodyX tab nb s o
   | _=>none
  | .store _ a v=>match ev1 s a with
   | .bref _ _=>match ev1 s v with
    | .aref _ _=>none
    | _=>bodyX tab nb s o
   | _=>none
  | .fieldAddr _ _ _=>bodyX tab nb s o
  | .field _ _ _=>bodyX tab nb s o
  | .extract _ _=>bodyX tab nb s o
  | .nilCheck _=>bodyX tab nb s o
  | .makeFunc _ _ _=>bodyX tab nb s o
  | .alloc _=>match bodyX tab nb s o with
   | some (v,m,rd)=>bif m.any (fun p=>nilM p.2) then none else some (v,m,rd)
   | none=>none
  | .box _ _=>match bodyX tab nb s o with
   | some (v,m,rd)=>bif m.any (fun p=>nilM p.2) then none else some (v,m,rd)
   | none=>none
  | _=>none
theorem effQ_ok {nb:Nat} {s:St} {o:Oper} {v:DV} {m:List (Nat×MO)} {rd:List Nat} (h:effQ nb s o=some (v,m,rd)):Body Tryz.prog tab nb s o v m rd/\o.guard=none:=by
 obtain⟨dst,op,ty,pos,af,gd⟩:=o
 cases gd with
 | some g=>cases h
 | none=>
 refine⟨?_,rfl⟩
 unfold effQ at h
 cases op with
 | move x=>
  simp only at h
  split at h
  ·rename_i p hp;cases h;exact B.move hp
  ·cases h
  exact B.run h
 | assign x=>
  simp only at h
  split at h
  ·rename_i p hp;cases h;exact B.assign hp
  ·cases h
  exact B.run h
 | unOp u t x=>
  cases u<;>simp only at h<;>try cases h
  split at h
  ·rename_i b hb;cases h;exact B.not hb
  cases h
 | binOp op t x y u=>
  simp only at h
  cases hsl:isSl y with
  | true=>rw[hsl] at h;cases h
  | false=>
  rw[hsl] at h
  simp only at h
  split at h
  ·rename_i k a ha
   split at h
   ·rename_i k' b hb
    cases hk:decide (k=k') with
    | false=>rw[hk] at h;cases h
    | true=>
     rw[hk] at h
     have:=of_decide_eq_true hk
     subst this
     simp only[cond_true] at h
     split at h
     ·rename_i c hc
      cases h
      unfold cmpQ at hc
      split at hc<;>cases hc
      ·exact B.lss ha hb
      ·exact B.leq ha hb
      ·exact B.gtr ha hb
      ·exact B.geq ha hb
      ·exact B.eql ha hb
      exact B.neq ha hb
     cases h
   cases h
  cases h
 | load t x=>
  simp only at h
  split at h
  ·rename_i p cs hp
   split at h
   ·rename_i ha
    split at h
    ·rename_i n hn;cases h;exact B.loadP hp ha hn
    cases h
   ·rename_i ha
    split at h
    ·rename_i n hn
     cases hb:Nat.ble n (p::cs).length with
     | false=>rw[hb] at h;cases h
     | true=>rw[hb] at h;cases h;exact B.loadA hp ha hn (nB hb) rfl
    cases h
   cases h
  ·exact B.run h
  cases h
 | store t a v=>
  simp only at h
  split at h
  ·split at h
   ·cases h
   exact B.run h
  cases h
 | fieldAddr t x f=>exact B.run h
 | field t x f=>exact B.run h
 | extract x f=>exact B.run h
 | nilCheck x=>exact B.run h
 | makeFunc f a c=>exact B.run h
 | alloc t=>
  simp only at h
  split at h
  ·rename_i v' m' rd' hb
   cases hn:m'.any (fun p=>nilM p.2) with
   | true=>rw[hn] at h;cases h
   | false=>rw[hn] at h;cases h;exact B.run hb
  cases h
 | box t x=>
  simp only at h
  split at h
  ·rename_i v' m' rd' hb
   cases hn:m'.any (fun p=>nilM p.2) with
   | true=>rw[hn] at h;cases h
   | false=>rw[hn] at h;cases h;exact B.run hb
  cases h
 | _=>cases h
section
variable {α:Type}
def fN (n:Nat) (k:Nat->α):α:=match n with
 | 0=>k 0
 | m+1=>k (m+1)
def fNs (l:List Nat) (k:List Nat->α):α:=match l with
 | []=>k []
 | n::l=>fN n fun n=>fNs l fun l=>k (n::l)
mutual
def fP (b:Bool) (p:PV) (k:PV->α):α:=match p with
 | .agg cs=>fPs b cs fun cs=>k (.agg cs)
 | .box cs=>fPs b cs fun cs=>k (.box cs)
 | .lit v=>k (.lit v)
 | .slice es=>k (.slice es)
 | .fn f a c=>fPs b a fun a=>fPs b c fun c=>k (.fn f a c)
 | .iface t v=>k (.iface t v)
 | .map ks vs=>k (.map ks vs)
 | .any=>k .any
def fPs (b:Bool) (l:List PV) (k:List PV->α):α:=match l with
 | []=>k []
 | p::l=>match b with
  | true=>fP true p fun p=>fPs true l fun l=>k (p::l)
  | false=>fPs false l fun l=>k (p::l)
end
mutual
def fV (b:Bool) (d:DV) (k:DV->α):α:=match d with
 | .pv p=>match b with
  | true=>fP true p fun p=>k (.pv p)
  | false=>k (.pv p)
 | .dead=>k .dead
 | .nils=>k .nils
 | .gd c d=>fV b d fun d=>k (.gd c d)
 | .bref h c=>fN h fun h=>fN c fun c=>k (.bref h c)
 | .aref h v=>fN h fun h=>k (.aref h v)
 | .atrunc h v n=>fN h fun h=>k (.atrunc h v n)
 | .eref h v i c=>fN h fun h=>k (.eref h v i c)
 | .awin h v o n=>fN h fun h=>k (.awin h v o n)
 | .mref h=>fN h fun h=>k (.mref h)
 | .agg ds=>fVs b ds fun ds=>k (.agg ds)
 | .tup ds=>fVs b ds fun ds=>k (.tup ds)
 | .clos f a c=>fVs b a fun a=>fVs b c fun c=>k (.clos f a c)
 | .yld h us ds=>fN h fun h=>fVs b ds fun ds=>k (.yld h us ds)
def fVs (b:Bool) (l:List DV) (k:List DV->α):α:=match l with
 | []=>k []
 | p::l=>fV b p fun p=>fVs b l fun l=>k (p::l)
end
def fM (b:Bool) (o:MO) (k:MO->α):α:=match o with
 | .box T ds=>fVs b ds fun ds=>k (.box T ds)
 | o=>k o
def fMs (b:Bool) (m ms:List (Nat×MO)) (k:List (Nat×MO)->α):α:=match m with
 | []=>k ms
 | (h,o)::m=>fN h fun h=>fM b o fun o=>fMs b m ms fun l=>k ((h,o)::l)
def dpO:Op->Bool
 | .build _ _=>true
 | _=>false
theorem fN_eq (n:Nat) (k:Nat->α):fN n k=k n:=by cases n<;>rfl
theorem fNs_eq:∀ (l:List Nat) (k:List Nat->α),fNs l k=k l
 | [],_=>rfl
 | n::l,k=>by rw[fNs,fN_eq,fNs_eq l]
mutual
theorem fP_eq (b:Bool):∀ (p:PV) (k:PV->α),fP b p k=k p
 | .agg cs,k=>by rw[fP,fPs_eq b cs]
 | .box cs,k=>by rw[fP,fPs_eq b cs]
 | .lit v,k=>by rw[fP]
 | .slice es,k=>by rw[fP]
 | .fn f a c,k=>by rw[fP,fPs_eq b a,fPs_eq b c]
 | .iface t v,k=>by rw[fP]
 | .map ks vs,k=>by rw[fP]
 | .any,k=>by rw[fP]
theorem fPs_eq (b:Bool):∀ (l:List PV) (k:List PV->α),fPs b l k=k l
 | [],k=>by rw[fPs]
 | p::l,k=>by
  cases b
  ·rw[fPs,fPs_eq false l]
  rw[fPs,fP_eq true p,fPs_eq true l]
end
mutual
theorem fV_eq (b:Bool):∀ (d:DV) (k:DV->α),fV b d k=k d
 | .pv p,k=>by
  cases b
  ·rw[fV]
  rw[fV,fP_eq]
 | .dead,k=>by rw[fV]
 | .nils,k=>by rw[fV]
 | .gd c d,k=>by rw[fV,fV_eq b d]
 | .bref h c,k=>by rw[fV,fN_eq,fN_eq]
 | .aref h v,k=>by rw[fV,fN_eq]
 | .atrunc h v n,k=>by rw[fV,fN_eq]
 | .eref h v i c,k=>by rw[fV,fN_eq]
 | .awin h v o n,k=>by rw[fV,fN_eq]
 | .mref h,k=>by rw[fV,fN_eq]
 | .agg ds,k=>by rw[fV,fVs_eq b ds]
 | .tup ds,k=>by rw[fV,fVs_eq b ds]
 | .yld h us ds,k=>by rw[fV,fN_eq,fVs_eq b ds]
 | .clos f a c,k=>by rw[fV,fVs_eq b a,fVs_eq b c]
theorem fVs_eq (b:Bool):∀ (l:List DV) (k:List DV->α),fVs b l k=k l
 | [],k=>by rw[fVs]
 | p::l,k=>by rw[fVs,fV_eq b p,fVs_eq b l]
end
theorem fM_eq (b:Bool) (o:MO) (k:MO->α):fM b o k=k o:=by
 unfold fM
 split
 ·rw[fVs_eq]
 rfl
theorem fMs_eq (b:Bool):∀ (m ms:List (Nat×MO)) (k:List (Nat×MO)->α),fMs b m ms k=k (m++ms)
 | [],_,_=>rfl
 | (h,o)::m,ms,k=>by rw[fMs,fN_eq,fM_eq,fMs_eq b m];rfl
end
inductive Cg where
 | t (x:Code) (K:List Fr) (tm:List (Nat×DV)) (ms:List (Nat×MO))
 | p (K:List Fr) (tm:List (Nat×DV)) (ms:List (Nat×MO))
 | r (ops:Array Oper) (dr:Bool) (os:List Oper) (tm:List (Nat×DV)) (ms:List (Nat×MO)) (acc:List Ef) (K:List Fr)
def CG [Fc] (n nb:Nat) (Q:Exit->St->Prop):Cg->Prop
 | .t x K tm ms=>TK Tryz.prog n nb Q x K ⟨tm,ms⟩
 | .p K tm ms=>PK Tryz.prog n nb Q K .normal ⟨tm,ms⟩
 | .r ops dr os tm ms acc K=>RG Tryz.prog tab nb ops dr os ⟨tm,ms⟩ acc (PK Tryz.prog n nb Q K .normal)
def nt (dr:Bool) (acc:List Ef) (e:Ef):List Ef:=match dr with
 | true=>acc++[e]
 | false=>[]
theorem RG.acc {nb:Nat} {ops:Array Oper} {os:List Oper} {s:St} {acc acc':List Ef} {Q:St->Prop} (h:RG Tryz.prog tab nb ops false os s acc Q):RG Tryz.prog tab nb ops false os s acc' Q:=by
 obtain⟨es,h1,_,h3⟩:=h
 exact⟨es,h1,fun h=>(by cases h),h3⟩
theorem RG.nt {nb:Nat} {ops:Array Oper} {dr:Bool} {os:List Oper} {s:St} {acc:List Ef} {e:Ef} {Q:St->Prop} (h:RG Tryz.prog tab nb ops dr os s (nt dr acc e) Q):RG Tryz.prog tab nb ops dr os s (acc++[e]) Q:=by
 cases dr
 ·exact RG.acc h
 exact h
def fD {α:Type} (tm:List (Nat×DV)) (dst:Option Tmp) (v:DV) (k:List (Nat×DV)->α):α:=match dst with
 | some t=>fN t fun t=>k ((t,v)::tm)
 | none=>k tm
theorem fD_eq {α:Type} (tm:List (Nat×DV)) (dst:Option Tmp) (v:DV) (k:List (Nat×DV)->α):fD tm dst v k=k (putT tm dst v):=by
 cases dst with
 | none=>rfl
 | some t=>rw[fD,fN_eq];rfl
def nx (ops:Array Oper) (dr:Bool) (os:List Oper) (tm:List (Nat×DV)) (dst:Option Tmp) (v:DV) (m ms:List (Nat×MO)) (rd:List Nat) (acc:List Ef) (K:List Fr):Cg:=
 fV false v fun v=>fMs false m ms fun ms=>fD tm dst v fun tm=>.r ops dr os tm ms (nt dr acc ⟨dst,v,m,rd⟩) K
theorem nx_ok [Fc] {n nb:Nat} {Q:Exit->St->Prop} {ops:Array Oper} {dr:Bool} {os:List Oper} {tm:List (Nat×DV)} {dst:Option Tmp} {v:DV} {m ms:List (Nat×MO)} {rd:List Nat} {acc:List Ef} {K:List Fr} (h:CG n nb Q (nx ops dr os tm dst v m ms rd acc K)) :
  RG Tryz.prog tab nb ops dr os (stp ⟨tm,ms⟩ ⟨dst,v,m,rd⟩) (acc++[⟨dst,v,m,rd⟩]) (PK Tryz.prog n nb Q K .normal):=by
 unfold nx at h
 rw[fV_eq,fMs_eq,fD_eq] at h
 exact RG.nt h
noncomputable def go (n nb stop:Nat):Nat->Cg->Cg
 | 0,c=>c
 | k+1,.p K tm ms=>match K with
  | .seq x::K=>go n nb stop k (.t x K tm ms)
  | .blk _::K=>go n nb stop k (.p K tm ms)
  | K=>.p K tm ms
 | k+1,.t x K tm ms=>match x with
  | .seq x y=>go n nb stop k (.t x (.seq y::K) tm ms)
  | .block i x=>go n nb stop k (.t x (.blk i::K) tm ms)
  | .skip=>go n nb stop k (.p K tm ms)
  | .exit i=>match cutK i K with
   | some K'=>go n nb stop k (.p K' tm ms)
   | none=>.t (.exit i) K tm ms
  | .region id ops dr=>bif Nat.beq id stop then .t (.region id ops dr) K tm ms else bif jA n (.region id ops dr) then go n nb stop k (.r ops dr ops.toList tm ms [] K) else .t (.region id ops dr) K tm ms
  | x=>.t x K tm ms
 | k+1,.r ops dr os tm ms acc K=>match os with
  | []=>match dr with
   | true=>.r ops true [] tm ms acc K
   | false=>go n nb stop k (.p K tm ms)
  | o::os=>match effQ nb ⟨tm,ms⟩ o with
   | some (v,m,rd)=>fV (dpO o.op) v fun v=>fMs (dpO o.op) m ms fun ms'=>match dr with
    | false=>fD tm o.dst v fun tm=>go n nb stop k (.r ops false os tm ms' [] K)
    | true=>fMs (dpO o.op) m [] fun m=>fNs rd fun rd=>fD tm o.dst v fun tm=>go n nb stop k (.r ops true os tm ms' (acc++[⟨o.dst,v,m,rd⟩]) K)
   | none=>.r ops dr (o::os) tm ms acc K
theorem go_ok [Fc] {n nb stop:Nat} {Q:Exit->St->Prop}:∀ {k:Nat} {c:Cg},CG n nb Q (go n nb stop k c)->CG n nb Q c
 | 0,_,h=>h
 | k+1,.p K tm ms,h=>by
  unfold go at h
  split at h
  ·rename_i x K
   show PK Tryz.prog n nb Q (.seq x::K) .normal ⟨tm,ms⟩
   exact PK.seq (go_ok (c:=.t x K tm ms) h)
  ·rename_i i K
   show PK Tryz.prog n nb Q (.blk i::K) .normal ⟨tm,ms⟩
   exact PK.blk (go_ok (c:=.p K tm ms) h)
  exact h
 | k+1,.t x K tm ms,h=>by
  unfold go at h
  split at h
  ·rename_i x y;exact TK.seq (go_ok (c:=.t x (.seq y::K) tm ms) h)
  ·rename_i i x;exact TK.block (go_ok (c:=.t x (.blk i::K) tm ms) h)
  ·exact TK.skip (go_ok (c:=.p K tm ms) h)
  ·rename_i i
   split at h
   ·rename_i K' hk;exact TK.exit (PK.exit hk (go_ok (c:=.p K' tm ms) h))
   exact h
  ·rename_i id ops dr
   cases h1:Nat.beq id stop with
   | true=>rw[h1] at h;exact h
   | false=>
    rw[h1] at h
    cases h2:jA n (.region id ops dr) with
    | false=>rw[h2] at h;exact h
    | true=>
     rw[h2] at h
     haveI:=tab_ok
     exact TK.rg (Y:=tab) mixed h2 (go_ok (c:=.r ops dr ops.toList tm ms [] K) h)
  exact h
 | k+1,.r ops dr os tm ms acc K,h=>by
  unfold go at h
  split at h
  ·split at h
   ·exact h
   exact RG.nil (fun h=>by cases h) (go_ok (c:=.p K tm ms) h)
  rename_i o os
  split at h
  ·rename_i v m rd he
   obtain⟨h1,h2⟩:=effQ_ok he
   rw[fV_eq,fMs_eq] at h
   have k2:RG Tryz.prog tab nb ops dr os (stp ⟨tm,ms⟩ ⟨o.dst,v,m,rd⟩) (acc++[⟨o.dst,v,m,rd⟩]) (PK Tryz.prog n nb Q K .normal):=by
    cases dr with
    | false=>
     simp only[fD_eq] at h
     exact RG.acc (go_ok (c:=.r ops false os (putT tm o.dst v) (m++ms) [] K) h)
    | true=>
     simp only[fMs_eq,fNs_eq,fD_eq,zS] at h
     exact go_ok (c:=.r ops true os (putT tm o.dst v) (m++ms) (acc++[⟨o.dst,v,m,rd⟩]) K) h
   exact RG.cons (EfR.on (by rw[h2];rfl) h1) k2
  exact h
section
variable [Fc] {n nb:Nat} {Q:Exit->St->Prop} {K:List Fr} {x y:Code} {id:Nat} {ops:Array Oper} {dr:Bool} {tm:List (Nat×DV)} {ms:List (Nat×MO)} {os:List Oper} {acc:List Ef} {c:Cg} {val:DV} {m:List (Nat×MO)} {rd:List Nat}
 {dst:Option Tmp} {op:Op} {ty:TypeId} {pos:String} {af:Array Edge} {o:Oper}
abbrev gN:Nat:=400
theorem E (e:go n nb 9999 gN c=.r ops dr (⟨dst,op,ty,pos,af,none⟩::os) tm ms acc K) (h:Body Tryz.prog tab nb ⟨tm,ms⟩ ⟨dst,op,ty,pos,af,none⟩ val m rd) (k:CG n nb Q (nx ops dr os tm dst val m ms rd acc K)):CG n nb Q c:=
 go_ok (k:=gN) (by rw[e];exact RO h (nx_ok k))
theorem C {f:Operand} {args:Array Operand} {ats:Array TypeId} {fid:FuncId} {first caps ds:List DV} (e:go n nb 9999 gN c=.r ops dr (⟨dst,.call ⟨.value f,args,ats⟩,ty,pos,af,none⟩::os) tm ms acc K) (H:qD Tryz.prog fid ds (qw []) val [])
  (hf:tgtX (ev1 ⟨tm,ms⟩ f)=some (fid,first,caps)) (hds:first++args.toList.map (ev1 ⟨tm,ms⟩)++caps=ds) (hr:DV.qP ds=[]) (k:CG n nb Q (nx ops dr os tm dst val [] ms [] acc K)):CG n nb Q c:=E e (B.call H hf hds hr) k
theorem Eg {b:Bool} (e:go n nb 9999 gN c=.r ops dr (o::os) tm ms acc K) (hg:gcond ops ⟨tm,ms⟩ o.guard=some b) (h:b=true->Body Tryz.prog tab nb ⟨tm,ms⟩ o val [] rd) (hr:refsIn ⟨tm,ms⟩ o val=true) (k:CG n nb Q (nx ops dr os tm o.dst (.gd b val) [] ms rd acc K)):CG n nb Q c:=
 go_ok (k:=gN) (by rw[e];exact RS hg h hr (nx_ok k))
theorem Et (e:go n nb 9999 gN c=.r ops dr (o::os) tm ms acc K) (hg:gcond ops ⟨tm,ms⟩ o.guard=some true) (h:Body Tryz.prog tab nb ⟨tm,ms⟩ o val m rd) (k:CG n nb Q (nx ops dr os tm o.dst val m ms rd acc K)):CG n nb Q c:=
 go_ok (k:=gN) (by rw[e];exact RT hg h (nx_ok k))
theorem Ef' (e:go n nb 9999 gN c=.r ops dr (o::os) tm ms acc K) (hg:gcond ops ⟨tm,ms⟩ o.guard=some false) (k:CG n nb Q (nx ops dr os tm o.dst (.gd false (lit (.bool false))) [] ms [] acc K)):CG n nb Q c:=
 go_ok (k:=gN) (by rw[e];exact RF hg (nx_ok k))
theorem Dr (e:go n nb 9999 gN c=.r ops true [] tm ms acc K) (h:efPairs ops 0 acc=true) (k:CG n nb Q (.p K tm ms)):CG n nb Q c:=
 go_ok (k:=gN) (by rw[e];exact RG.nil (fun _=>h) k)
theorem Cb {o:Operand} {b:Bool} (e:go n nb 9999 gN c=.t (.cond o x y) K tm ms) (hc:evS ⟨tm,ms⟩ o=lit (.bool b)) (hx:b=true->CG n nb Q (.t x K tm ms)) (hy:b=false->CG n nb Q (.t y K tm ms)):CG n nb Q c:=go_ok (k:=gN) (by rw[e];exact TK.cond hc hx hy)
theorem Cp {o:Operand} {p:Prop} [Decidable p] (e:go n nb 9999 gN c=.t (.cond o x y) K tm ms) (hc:evS ⟨tm,ms⟩ o=lit (.bool (decide p))) (hx:p->CG n nb Q (.t x K tm ms)) (hy:¬p->CG n nb Q (.t y K tm ms)):CG n nb Q c:=go_ok (k:=gN) (by rw[e];exact TK.condP hc hx hy)
theorem CT {o:Operand} (e:go n nb 9999 gN c=.t (.cond o x y) K tm ms) (hc:evS ⟨tm,ms⟩ o=lit (.bool true)) (hx:CG n nb Q (.t x K tm ms)):CG n nb Q c:=go_ok (k:=gN) (by rw[e];exact TK.condT hc hx)
theorem CF {o:Operand} (e:go n nb 9999 gN c=.t (.cond o x y) K tm ms) (hc:evS ⟨tm,ms⟩ o=lit (.bool false)) (hy:CG n nb Q (.t y K tm ms)):CG n nb Q c:=go_ok (k:=gN) (by rw[e];exact TK.condF hc hy)
theorem Rt (e:go n nb 9999 gN c=.t .ret K tm ms) (h:Q .ret ⟨tm,ms⟩):CG n nb Q c:=go_ok (k:=gN) (by rw[e];exact lf h)
theorem Rn (e:go n nb 9999 gN c=.p [] tm ms) (h:Q .normal ⟨tm,ms⟩):CG n nb Q c:=go_ok (k:=gN) aX
theorem tk (stop:Nat) (e:go n nb stop gN c=.t x K tm ms) (h:TK Tryz.prog n nb Q x K ⟨tm,ms⟩):CG n nb Q c:=go_ok (k:=gN) (stop:=stop) aX
theorem pk {C:St->Prop} (e:go n nb 9999 gN c=.p (.lp C::K) tm ms) (h:C ⟨tm,ms⟩):CG n nb Q c:=go_ok (k:=gN) (by rw[e];exact (PK.lp (P:=Tryz.prog) (n:=n) (nb:=nb) (Q:=Q) (K:=K) h))
theorem kc (h:CG n nb Q (.t x K tm ms)):TK Tryz.prog n nb Q x K ⟨tm,ms⟩:=h
theorem ek (e:go n nb 9999 gN c=.r ops dr os tm ms acc K) (h:CG n nb Q (.r ops dr os tm ms acc K)):CG n nb Q c:=go_ok (k:=gN) aX
theorem pc (h:CG n nb Q (.p K tm ms)):PK Tryz.prog n nb Q K .normal ⟨tm,ms⟩:=h
theorem rc (h:CG n nb Q (.r ops dr os tm ms acc K)):RG Tryz.prog tab nb ops dr os ⟨tm,ms⟩ acc (PK Tryz.prog n nb Q K .normal):=h
theorem Fz (stop t:Nat) {h v sz:Nat} {T0:TypeId} {es:List (List PV)} (e:go n nb stop gN c=.t x K tm ms) (ht:jx tm t=.aref h v) (hm:qw ms h=some (.arr v sz T0 es)) (k:CG n nb Q (.t x K ((t,.pv (.slice es))::tm) ((h,.farr v es)::ms))):CG n nb Q c:=
 tk stop e (TK.frz (s:=⟨tm,ms⟩) ht hm k)
theorem Cj {x':Code} {M:List Fr} {o:Operand} {b:Bool} (S1:List (Nat×DV)) (S2:List (Nat×MO)) (e:go n nb 9999 gN c=.t (.cond o x x') K tm ms) (hc:evS ⟨tm,ms⟩ o=lit (.bool b)) (e2:adv 40 (.p K)=.t y M)
  (hx:b=true->CG n nb Q (.t x (.lp (fun s'=>Sub nb s' ⟨S1,S2⟩)::K) tm ms)) (hy:b=false->CG n nb Q (.t x' (.lp (fun s'=>Sub nb s' ⟨S1,S2⟩)::K) tm ms)) (k:CG n nb Q (.t y M S1 S2)):CG n nb Q c:=by
 refine tk 9999 e ?_
 have conv:∀ e s',PK Tryz.prog n nb Q (.lp (fun s'=>Sub nb s' ⟨S1,S2⟩)::K) e s'->PK Tryz.prog n nb Q K e s':=by
  intro e1 s' h
  cases e1 with
  | normal=>
   have h':Sub nb s' ⟨S1,S2⟩:=h
   exact Ap e2 (TK.norm _ h' k)
  | _=>exact h
 exact TK.cond hc (fun h=>T.mono (hx h) conv) (fun h=>T.mono (hy h) conv)
def Q1 {α:Type} (nb:Nat) (T:α->List (Nat×DV)) (M:α->List (Nat×MO)) (I:α->Prop) (m:α->Nat) (a1:α) (s:St):Prop:=∃ b1,I b1/\m b1<m a1/\Sub nb s ⟨T b1,M b1⟩
theorem l1 {α:Type} (T:α->List (Nat×DV)) (M:α->List (Nat×MO)) (I:α->Prop) (m:α->Nat) (a1:α) (e:go n nb 9999 gN c=.t (.loop x) K tm ms) (h0:I a1) (hs:Sub nb ⟨tm,ms⟩ ⟨T a1,M a1⟩)
 (hb:∀ a1,I a1->CG n nb Q (.t x (.lp (Q1 nb T M I m a1)::K) (T a1) (M a1))):CG n nb Q c:=tk 9999 e (TK.loop (α:=α) (fun x=>⟨T x,M x⟩) (fun x=>I x) (fun x=>m x) a1 h0 hs (fun x hI=>by
  rw[show LP nb (fun x:α=>⟨T x,M x⟩) (fun x=>I x) (fun x=>m x) x=Q1 nb T M I m x from funext fun s=>propext ⟨fun ⟨b1,h⟩=>⟨b1,h⟩,fun ⟨b1,h⟩=>⟨b1,h⟩⟩]
  exact hb x hI))
theorem L1 {α:Type} {T:α->List (Nat×DV)} {M:α->List (Nat×MO)} {I:α->Prop} {m:α->Nat} {a1:α} (b1:α) {s:St} (h1:I b1) (h2:m b1<m a1) (h3:Sub nb s ⟨T b1,M b1⟩):Q1 nb T M I m a1 s:=⟨b1,h1,h2,h3⟩
def Q2 {α β:Type} (nb:Nat) (T:α->β->List (Nat×DV)) (M:α->β->List (Nat×MO)) (I:α->β->Prop) (m:α->β->Nat) (a1:α) (a2:β) (s:St):Prop:=∃ b1 b2,I b1 b2/\m b1 b2<m a1 a2/\Sub nb s ⟨T b1 b2,M b1 b2⟩
theorem l2 {α β:Type} (T:α->β->List (Nat×DV)) (M:α->β->List (Nat×MO)) (I:α->β->Prop) (m:α->β->Nat) (a1:α) (a2:β) (e:go n nb 9999 gN c=.t (.loop x) K tm ms) (h0:I a1 a2) (hs:Sub nb ⟨tm,ms⟩ ⟨T a1 a2,M a1 a2⟩)
 (hb:∀ a1 a2,I a1 a2->CG n nb Q (.t x (.lp (Q2 nb T M I m a1 a2)::K) (T a1 a2) (M a1 a2))):CG n nb Q c:=tk 9999 e (TK.loop (α:=α×β) (fun x=>⟨T x.1 x.2,M x.1 x.2⟩) (fun x=>I x.1 x.2) (fun x=>m x.1 x.2) (a1,a2) h0 hs (fun x hI=>by
  rw[show LP nb (fun x:α×β=>⟨T x.1 x.2,M x.1 x.2⟩) (fun x=>I x.1 x.2) (fun x=>m x.1 x.2) x=Q2 nb T M I m x.1 x.2 from funext fun s=>propext ⟨fun ⟨⟨b1,b2⟩,h⟩=>⟨b1,b2,h⟩,fun ⟨b1,b2,h⟩=>⟨(b1,b2),h⟩⟩]
  exact hb x.1 x.2 hI))
theorem L2 {α β:Type} {T:α->β->List (Nat×DV)} {M:α->β->List (Nat×MO)} {I:α->β->Prop} {m:α->β->Nat} {a1:α} {a2:β} (b1:α) (b2:β) {s:St} (h1:I b1 b2) (h2:m b1 b2<m a1 a2) (h3:Sub nb s ⟨T b1 b2,M b1 b2⟩):Q2 nb T M I m a1 a2 s:=⟨b1,b2,h1,h2,h3⟩
def Q3 {α β γ:Type} (nb:Nat) (T:α->β->γ->List (Nat×DV)) (M:α->β->γ->List (Nat×MO)) (I:α->β->γ->Prop) (m:α->β->γ->Nat) (a1:α) (a2:β) (a3:γ) (s:St):Prop:=∃ b1 b2 b3,I b1 b2 b3/\m b1 b2 b3<m a1 a2 a3/\Sub nb s ⟨T b1 b2 b3,M b1 b2 b3⟩
theorem l3 {α β γ:Type} (T:α->β->γ->List (Nat×DV)) (M:α->β->γ->List (Nat×MO)) (I:α->β->γ->Prop) (m:α->β->γ->Nat) (a1:α) (a2:β) (a3:γ) (e:go n nb 9999 gN c=.t (.loop x) K tm ms) (h0:I a1 a2 a3) (hs:Sub nb ⟨tm,ms⟩ ⟨T a1 a2 a3,M a1 a2 a3⟩)
 (hb:∀ a1 a2 a3,I a1 a2 a3->CG n nb Q (.t x (.lp (Q3 nb T M I m a1 a2 a3)::K) (T a1 a2 a3) (M a1 a2 a3))):CG n nb Q c:=tk 9999 e (TK.loop (α:=α×β×γ) (fun x=>⟨T x.1 x.2.1 x.2.2,M x.1 x.2.1 x.2.2⟩) (fun x=>I x.1 x.2.1 x.2.2) (fun x=>m x.1 x.2.1 x.2.2) (a1,a2,a3) h0 hs (fun x hI=>by
  rw[show LP nb (fun x:α×β×γ=>⟨T x.1 x.2.1 x.2.2,M x.1 x.2.1 x.2.2⟩) (fun x=>I x.1 x.2.1 x.2.2) (fun x=>m x.1 x.2.1 x.2.2) x=Q3 nb T M I m x.1 x.2.1 x.2.2 from funext fun s=>propext ⟨fun ⟨⟨b1,b2,b3⟩,h⟩=>⟨b1,b2,b3,h⟩,fun ⟨b1,b2,b3,h⟩=>⟨(b1,b2,b3),h⟩⟩]
  exact hb x.1 x.2.1 x.2.2 hI))
theorem L3 {α β γ:Type} {T:α->β->γ->List (Nat×DV)} {M:α->β->γ->List (Nat×MO)} {I:α->β->γ->Prop} {m:α->β->γ->Nat} {a1:α} {a2:β} {a3:γ} (b1:α) (b2:β) (b3:γ) {s:St} (h1:I b1 b2 b3) (h2:m b1 b2 b3<m a1 a2 a3) (h3:Sub nb s ⟨T b1 b2 b3,M b1 b2 b3⟩):Q3 nb T M I m a1 a2 a3 s:=⟨b1,b2,b3,h1,h2,h3⟩
def Q4 {α β γ δ:Type} (nb:Nat) (T:α->β->γ->δ->List (Nat×DV)) (M:α->β->γ->δ->List (Nat×MO)) (I:α->β->γ->δ->Prop) (m:α->β->γ->δ->Nat) (a1:α) (a2:β) (a3:γ) (a4:δ) (s:St):Prop:=∃ b1 b2 b3 b4,I b1 b2 b3 b4/\m b1 b2 b3 b4<m a1 a2 a3 a4/\Sub nb s ⟨T b1 b2 b3 b4,M b1 b2 b3 b4⟩
def Q5 {α β γ δ ε:Type} (nb:Nat) (T:α->β->γ->δ->ε->List (Nat×DV)) (M:α->β->γ->δ->ε->List (Nat×MO)) (I:α->β->γ->δ->ε->Prop) (m:α->β->γ->δ->ε->Nat) (a1:α) (a2:β) (a3:γ) (a4:δ) (a5:ε) (s:St):Prop:=∃ b1 b2 b3 b4 b5,I b1 b2 b3 b4 b5/\m b1 b2 b3 b4 b5<m a1 a2 a3 a4 a5/\Sub nb s ⟨T b1 b2 b3 b4 b5,M b1 b2 b3 b4 b5⟩
def Q6 {α β γ δ ε ζ:Type} (nb:Nat) (T:α->β->γ->δ->ε->ζ->List (Nat×DV)) (M:α->β->γ->δ->ε->ζ->List (Nat×MO)) (I:α->β->γ->δ->ε->ζ->Prop) (m:α->β->γ->δ->ε->ζ->Nat) (a1:α) (a2:β) (a3:γ) (a4:δ) (a5:ε) (a6:ζ) (s:St):Prop:=∃ b1 b2 b3 b4 b5 b6,I b1 b2 b3 b4 b5 b6/\m b1 b2 b3 b4 b5 b6<m a1 a2 a3 a4 a5 a6/\Sub nb s ⟨T b1 b2 b3 b4 b5 b6,M b1 b2 b3 b4 b5 b6⟩
end
theorem cG {f:FuncId} {F:FnI} {c:Code} {ds:List DV} {val:DV} (q:QF f F) (hb:F.body=some c) (hl:ds.length<=F.n) (hr:DV.qP ds=[]) (h:CG F.n 1 (Post tab F 1 val) (.t c [] (zipT 0 ds) [])):qD Tryz.prog f ds (qw []) val []:=cO q hb hl hr h
theorem cL {f:FuncId} {F:FnI} {c:Code} (lo:Nat) (l:List (Nat×MO)) {ds:List DV} {val:DV} {out:List (Nat×MO)} (q:QF f F) (hb:F.body=some c) (hl:ds.length<=F.n) (hrf:(DV.qP ds).all (j8 l)=true) (hnb:l.all (fun p=>Nat.blt p.1 lo)=true)
 (h:TK Tryz.prog F.n lo (PostL tab F lo l val out) c [] ⟨zipT 0 ds,l⟩):qD Tryz.prog f ds (qw l) val out:=by
 obtain⟨fn,f1,f2,f3,f4,_,f6⟩:=q
 exact callOk_ofL (Y:=tab) (F:=F) lo l f1 (f2.trans hb) f3 f4 f6 hl hrf hnb h
theorem leafE {Y:Tab} {F:FnI} {lo:Nat} {val:DV} {s:St} {val0:DV} (h:closeX Y F lo [] s=some (val0,[])) (hv:val0=val):Post Y F lo val .normal s:=⟨.inl Z,val0,[],h,hv,rfl⟩
end
end Go.Lens.Tb
end
section
namespace Go.Lens
variable [Lz]
theorem bsO_size (a:List UInt8):(bsO a).size=a.length:=rfl
theorem bsO_toList (a:List UInt8):(bsO a).toList=a:=by rw[ByteArray.toList_eq];rfl
theorem bsO_append (a b:List UInt8):bsO a++bsO b=bsO (a++b):=by
 apply ByteArray.ext
 apply Array.toList_inj.1
 simp[bsO]
theorem bsO_extract (a:List UInt8) (i j:Nat):(bsO a).extract i j=bsO ((a.take j).drop i):=by
 apply ByteArray.ext
 apply Array.toList_inj.1
 simp[bsO,ByteArray.data_extract,List.drop_take]
theorem byteAt_bsO (a:List UInt8) (i:Nat):byteAt (bsO a) i=((a.getD i 0).toNat:Int):=rfl
section
variable {P:Program} {Y:Tab} [qM P Y] {nb:Nat} {s:St} {dst:Option Tmp} {ty u:TypeId} {pos:String} {af:Array Edge} {gd:Option (Nat×Bool)} {t:TypeId} {x y z:Operand} {a b:List UInt8}
theorem B.catB (hx:ev1 s x=lit (.string (bsO a))) (hy:ev1 s y=lit (.string (bsO b))) (h:a.length+b.length<=9223372036854775807):Body P Y nb s ⟨dst,.binOp .add t x y u,ty,pos,af,gd⟩ (lit (.string (bsO (a++b)))) [] []:=by
 refine B.bin hx hy ?_
 show qE (some (decide ((bsO a).size+(bsO b).size<=9223372036854775807),lit (.string (bsO a++bsO b))))=_
 have:decide ((bsO a).size+(bsO b).size<=9223372036854775807)=true:=zl h
 rw[this,bsO_append];rfl
theorem B.seqB (hx:ev1 s x=lit (.string (bsO a))) (hy:ev1 s y=lit (.string (bsO b))):Body P Y nb s ⟨dst,.binOp .eql t x y u,ty,pos,af,gd⟩ (lit (.bool (decide (a=b)))) [] []:=by
 have:=B.seql (P:=P) (Y:=Y) (nb:=nb) (s:=s) (dst:=dst) (ty:=ty) (u:=u) (pos:=pos) (af:=af) (gd:=gd) (t:=t) hx hy
 rwa [show decide (bsO a=bsO b)=decide (a=b) by rw[zM];simp[bsO_inj]] at this
theorem B.sneB (hx:ev1 s x=lit (.string (bsO a))) (hy:ev1 s y=lit (.string (bsO b))):Body P Y nb s ⟨dst,.binOp .neq t x y u,ty,pos,af,gd⟩ (lit (.bool (decide (a≠b)))) [] []:=by
 have:=B.sneq (P:=P) (Y:=Y) (nb:=nb) (s:=s) (dst:=dst) (ty:=ty) (u:=u) (pos:=pos) (af:=af) (gd:=gd) (t:=t) hx hy
 rwa [show decide (bsO a≠bsO b)=decide (a≠b) by rw[zM];simp[bsO_inj]] at this
theorem B.bqB {p q:Bool} (hx:ev1 s x=lit (.bool p)) (hy:ev1 s y=lit (.bool q)) (und:Y.underlying t=some .bool):Body P Y nb s ⟨dst,.binOp .eql t x y u,ty,pos,af,gd⟩ (lit (.bool (p==q))) [] []:=by
 refine B.bin hx hy ?_
 have h3:binQ Y .eql t (lit (.bool p)) (lit (.bool q))=some (true,lit (.bool (p==q))):=by
  simp only[binQ,lit,und]
 show qE (binW Y .eql t (qw []) (kP y) (lit (.bool p)) (lit (.bool q)))=_
 have h4:binW Y .eql t (qw []) (kP y) (lit (.bool p)) (lit (.bool q))=some (true,lit (.bool (p==q))):=by
  unfold binW
  simp only[lit] at h3 ⊢
  simp only[nilQ,nilKind,samePQ,h3]
 rw[h4];rfl
theorem B.lenB {at':TypeId} (hx:ev1 s x=lit (.string (bsO a))) (hu:Y.underlying at'=some .string):Body P Y nb s ⟨dst,.call ⟨.builtin .len,⟨[x]⟩,⟨[at']⟩⟩,ty,pos,af,gd⟩ (lit (.int .i64 ((a.length:Nat):Int))) [] []:=B.lenS hx hu
theorem B.slHB {hi:Operand} {k:IntKind} {n:Int} {j:Nat} (hx:ev1 s x=lit (.string (bsO a))) (hy:ev1 s hi=lit (.int k n)) (hu:Y.underlying t=some .string) (hn:n=(j:Int)) (hj:j<=a.length) :
 Body P Y nb s ⟨dst,.slice t x none (some hi) none,ty,pos,af,gd⟩ (lit (.string (bsO (a.take j)))) [] []:=by
 refine B.pure (lo:=0) (nm:=0) (kl P) ?_ ?_
 ·intro z hz
  have:z=x\/z=hi:=by simpa [Op.operands] using hz
  rcases this with rfl|rfl
  ·rw[hx];rfl
  rw[hy];rfl
 have e1:evU (tmpsOf [x,hi]) s x=_:=(qW ao).trans hx
 have e2:evU (tmpsOf [x,hi]) s hi=_:=(qW ao).trans hy
 have hv:effV Y 0 dst (.slice t x none (some hi) none) (evU (tmpsOf [x,hi]) s) (qw [])=Zl (kn Y t (qw []) (evU (tmpsOf [x,hi]) s x) none (some (evU (tmpsOf [x,hi]) s hi)) none):=rfl
 show (match effV Y 0 dst (.slice t x none (some hi) none) (evU (tmpsOf [x,hi]) s) (qw []) with|some ⟨true,v,m⟩=>some (v,m)|_=>none)=_
 rw[hv,e1,e2]
 have hq:kn Y t (qw []) (lit (.string (bsO a))) none (some (lit (.int k n))) none=some (true,lit (.string (bsO (a.take j)))):=by
  show ku Y t (qw []) (lit (.string (bsO a))) none (some (lit (.int k n))) none=_
  unfold ku lit
  simp only[hu,bound,zQ,Option.getD_none]
  subst hn
  have:decide ((0:Int)<=0/\(0:Int)<=(j:Int)/\(j:Int)<=((bsO a).size:Int))=true:=zl ⟨aa,aa,by rw[bsO_size];omega⟩
  rw[this,zU,bsO_extract];rfl
 rw[hq];rfl
theorem B.slLB {lo:Operand} {k:IntKind} {n:Int} {i:Nat} (hx:ev1 s x=lit (.string (bsO a))) (hy:ev1 s lo=lit (.int k n)) (hu:Y.underlying t=some .string) (hn:n=(i:Int)) (hi:i<=a.length) :
 Body P Y nb s ⟨dst,.slice t x (some lo) none none,ty,pos,af,gd⟩ (lit (.string (bsO (a.drop i)))) [] []:=by
 refine B.pure (lo:=0) (nm:=0) (kl P) ?_ ?_
 ·intro z hz
  have:z=x\/z=lo:=by simpa [Op.operands] using hz
  rcases this with rfl|rfl
  ·rw[hx];rfl
  rw[hy];rfl
 have e1:evU (tmpsOf [x,lo]) s x=_:=(qW ao).trans hx
 have e2:evU (tmpsOf [x,lo]) s lo=_:=(qW ao).trans hy
 have hv:effV Y 0 dst (.slice t x (some lo) none none) (evU (tmpsOf [x,lo]) s) (qw [])=Zl (kn Y t (qw []) (evU (tmpsOf [x,lo]) s x) (some (evU (tmpsOf [x,lo]) s lo)) none none):=by
  show (match frzU (qw []) (refsOf (evU (tmpsOf [x,lo]) s) [x]) with
   | []=>stepV Y 0 dst (.slice t x (some lo) none none) (evU (tmpsOf [x,lo]) s) (qw []) (qw [])
   | fz=>match stepV Y 0 dst (.slice t x (some lo) none none) (evU (tmpsOf [x,lo]) s) (upd fz (qw [])) (upd fz (qw [])) with
    | some ⟨s,v,ms⟩=>some ⟨s,v,mrg ms fz⟩
    | none=>none)=_
  have hrf:refsOf (evU (tmpsOf [x,lo]) s) [x]=[]:=by simp[refsOf,e1,lit,DV.refs]
  rw[hrf];rfl
 show (match effV Y 0 dst (.slice t x (some lo) none none) (evU (tmpsOf [x,lo]) s) (qw []) with|some ⟨true,v,m⟩=>some (v,m)|_=>none)=_
 rw[hv,e1,e2]
 have hq:kn Y t (qw []) (lit (.string (bsO a))) (some (lit (.int k n))) none none=some (true,lit (.string (bsO (a.drop i)))):=by
  show ku Y t (qw []) (lit (.string (bsO a))) (some (lit (.int k n))) none none=_
  unfold ku lit
  simp only[hu,bound,zQ,Option.getD_none]
  subst hn
  have:decide ((0:Int)<=(i:Int)/\(i:Int)<=((bsO a).size:Int)/\((bsO a).size:Int)<=((bsO a).size:Int))=true:=zl ⟨aa,by rw[bsO_size];omega,aa⟩
  rw[this,zU,zU,bsO_extract,bsO_size,zB (zC _)]
 rw[hq];rfl
theorem B.slMB {lo hi:Operand} {k k':IntKind} {n m:Int} {i j:Nat} (hx:ev1 s x=lit (.string (bsO a))) (hy:ev1 s lo=lit (.int k n)) (hz:ev1 s hi=lit (.int k' m)) (hu:Y.underlying t=some .string) (hn:n=(i:Int)) (hm:m=(j:Int)) (hij:i<=j) (hj:j<=a.length) :
 Body P Y nb s ⟨dst,.slice t x (some lo) (some hi) none,ty,pos,af,gd⟩ (lit (.string (bsO ((a.take j).drop i)))) [] []:=by
 refine B.pure (lo:=0) (nm:=0) (kl P) ?_ ?_
 ·intro z hz'
  have:z=x\/z=lo\/z=hi:=by simpa [Op.operands] using hz'
  rcases this with rfl|rfl|rfl
  ·rw[hx];rfl
  ·rw[hy];rfl
  rw[hz];rfl
 have e1:evU (tmpsOf [x,lo,hi]) s x=_:=(qW ao).trans hx
 have e2:evU (tmpsOf [x,lo,hi]) s lo=_:=(qW ao).trans hy
 have e3:evU (tmpsOf [x,lo,hi]) s hi=_:=(qW ao).trans hz
 have hv:effV Y 0 dst (.slice t x (some lo) (some hi) none) (evU (tmpsOf [x,lo,hi]) s) (qw [])=Zl (kn Y t (qw []) (evU (tmpsOf [x,lo,hi]) s x) (some (evU (tmpsOf [x,lo,hi]) s lo)) (some (evU (tmpsOf [x,lo,hi]) s hi)) none):=by
  show (match frzU (qw []) (refsOf (evU (tmpsOf [x,lo,hi]) s) [x]) with
   | []=>stepV Y 0 dst (.slice t x (some lo) (some hi) none) (evU (tmpsOf [x,lo,hi]) s) (qw []) (qw [])
   | fz=>match stepV Y 0 dst (.slice t x (some lo) (some hi) none) (evU (tmpsOf [x,lo,hi]) s) (upd fz (qw [])) (upd fz (qw [])) with
    | some ⟨s,v,ms⟩=>some ⟨s,v,mrg ms fz⟩
    | none=>none)=_
  have hrf:refsOf (evU (tmpsOf [x,lo,hi]) s) [x]=[]:=by simp[refsOf,e1,lit,DV.refs]
  rw[hrf];rfl
 show (match effV Y 0 dst (.slice t x (some lo) (some hi) none) (evU (tmpsOf [x,lo,hi]) s) (qw []) with|some ⟨true,v,m⟩=>some (v,m)|_=>none)=_
 rw[hv,e1,e2,e3]
 have hq:kn Y t (qw []) (lit (.string (bsO a))) (some (lit (.int k n))) (some (lit (.int k' m))) none=some (true,lit (.string (bsO ((a.take j).drop i)))):=by
  show ku Y t (qw []) (lit (.string (bsO a))) (some (lit (.int k n))) (some (lit (.int k' m))) none=_
  unfold ku lit
  simp only[hu,bound,zQ]
  subst hn;subst hm
  have:decide ((0:Int)<=(i:Int)/\(i:Int)<=(j:Int)/\(j:Int)<=((bsO a).size:Int))=true:=zl ⟨aa,aa,by rw[bsO_size];omega⟩
  rw[this,zU,zU,bsO_extract]
 rw[hq];rfl
end
section
variable {P:Program} {Y:Tab} [qM P Y] {nb:Nat} {s:St} {dst:Option Tmp} {ty u:TypeId} {pos:String} {af:Array Edge} {gd:Option (Nat×Bool)} {t:TypeId} {x y z:Operand}
theorem B.idxE {α:Type} {enc:α->List PV} {l:List α} {h v sz n:Nat} {k:IntKind} {m:Int} {e T:TypeId} (hx:ev1 s x=.aref h v) (hm:qw s.ms h=some (.arr v sz T (l.map enc))) (hy:ev1 s y=lit (.int k m)) (und:Y.underlying t=some (.slice e)) (hs:szT Y e=some sz)
  (hn:m=(n:Int)) (hlt:n<l.length):Body P Y nb s ⟨dst,.indexAddr t x y,ty,pos,af,gd⟩ (.eref h v n 0) [] [h]:=by
 refine .inr (km.of fun σ G a w hv hl I=>?_)
 have hX:=hv x aY
 have hY:=hv y aY
 rw[hx] at hX;rw[hy] at hY
 have hlk:qw σ.ms h=some (.arr v sz T (l.map enc)):=by rw[hl h (.inl ao)];exact hm
 have hq:jT Y t (qw σ.ms) (.aref h v) (lit (.int k m))=some (true,.eref h v n 0):=by
  show jC Y t (qw σ.ms) (.aref h v) (lit (.int k m))=_
  unfold jC lit
  subst hn
  have:decide ((0:Int)<=(n:Int)/\(n:Int)<((l.map enc).length:Int))=true:=zl ⟨aa,by rw[zJ];omega⟩
  simp only[und,hs,hlk,and_self,qp,this,zU]
 obtain⟨r,h1,h2⟩:=indexAddrW_sound (P:=P) I.ctxS.sees hq hX hY
 refine⟨r,w,G,.inl ?_,qH I.ctxS h2 (fun k hk=>?_)⟩
 ·simp only[execOp,qt,h1,qr,qu]
 simp only[DV.refs,zg] at hk;subst hk;exact⟨_,hlk⟩
theorem B.setE {α:Type} {enc:α->List PV} {l:List α} {z0:α} {p:PV} {h v n:Nat} {T:TypeId} (hx:ev1 s x=.eref h v n 0) (hm:qw s.ms h=some (.arr v 1 T (l.map enc))) (hy:ev1 s y=.pv p) (hz:enc z0=[p]) (hc:cellsPV p=[p])
  (hs:szT Y t=some 1) (hlt:n<l.length) (hsz:∀ a,(enc a).length=1):Body P Y nb s ⟨dst,.store t x y,ty,pos,af,gd⟩ .dead [(h,.arr v 1 T ((l.set n z0).map enc))] [h]:=by
 refine .inr (km.of fun σ G a w hv hl I=>?_)
 have hX:=hv x aY
 have hY:=hv y aY
 rw[hx] at hX;rw[hy] at hY
 have hlk:qw σ.ms h=some (.arr v 1 T (l.map enc)):=by rw[hl h (.inl ao)];exact hm
 have C:Ctx G w (fun z=>match z with| .tmp 0=>a.eval x| .tmp 1=>a.eval y|_=>undef) (fun z=>match z with| .tmp 0=>.eref h v n 0| .tmp 1=>.pv p|_=>.dead) (qw σ.ms) (qw σ.ms):=by
  refine I.mem.ctx2 (fun z=>?_) (fun z k hk=>?_)
  ·split
   ·exact hX
   ·exact hY
   simp only[qx]
  split at hk
  ·simp only[DV.refs,zg] at hk;subst hk;exact⟨_,hlk⟩
  ·simp[DV.refs] at hk
  simp[DV.refs] at hk
 have hcv:storeV Y t (.eref h v n 0) (.pv p) (qw σ.ms)=some ⟨true,.dead,[(h,.arr v 1 T ((l.set n z0).map enc))]⟩:=by
  unfold storeV
  have hp:pvOf (qw σ.ms) (.pv p)=some p:=rfl
  have hg:(l.map enc).getD n []=enc (l[n]'hlt):=by rw[ze,qe,zm hlt];rfl
  have hd:(enc (l[n]'hlt)).drop 1=[]:=zW (by rw[hsz];omega)
  have hdec:decide (n<(l.map enc).length/\0+1<=1)=true:=zl ⟨by rw[zJ];exact hlt,aa⟩
  simp only[hs,hlk,hp,hc,zb,zd,and_self,qp,hg,List.take_zero,zV,Nat.zero_add,hd,zS,List.map_set,hz]
  have hdec2:decide (n<(l.map enc).length/\1<=1)=true:=hdec
  simp only[zJ] at hdec2
  simp[hlt]
 obtain⟨w',G',h1,h2⟩:=storeV_sound (P:=P) C (t:=t) (a:=.tmp 0) (x:=.tmp 1) hcv rfl
 refine⟨undef,w',G',.inr ⟨?_,rfl⟩,h2⟩
 have lift:∀ {q:Sem Unit} {w':World},q.run P w=.ok () w'->(do q;Pure.pure Next.skip:Sem Next).run P w=.ok .skip w':=by
  intro q w' h
  simp only[qt,h,qr,qu]
 exact lift (q:=Instr.storeAt _ _ _) h1
theorem B.lenB1 {c:UInt8} {at':TypeId} (hx:ev1 s x=lit (.string (bsO [c]))) (hu:Y.underlying at'=some .string):Body P Y nb s ⟨dst,.call ⟨.builtin .len,⟨[x]⟩,⟨[at']⟩⟩,ty,pos,af,gd⟩ (lit (.int .i64 1)) [] []:=B.lenB hx hu
end
section
variable {P:Program} {Y:Tab} [qM P Y] {nb:Nat} {s:St} {dst:Option Tmp} {ty u:TypeId} {pos:String} {af:Array Edge} {gd:Option (Nat×Bool)} {t:TypeId} {x y z:Operand}
theorem B.loadE {α:Type} {enc:α->List PV} {l:List α} {z0:α} {p:PV} {h v sz n:Nat} {T:TypeId} (hx:ev1 s x=.eref h v n 0) (hm:qw s.ms h=some (.arr v sz T (l.map enc))) (ha:aggT Y t=some false) (hs:szT Y t=some 1)
  (hlt:n<l.length) (hz:enc (l.getD n z0)=[p]):Body P Y nb s ⟨dst,.load t x,ty,pos,af,gd⟩ (.pv p) [] [h]:=by
 refine .inr (km.of fun σ G a w hv hl I=>?_)
 have hX:=hv x aY
 rw[hx] at hX
 have hlk:qw σ.ms h=some (.arr v sz T (l.map enc)):=by rw[hl h (.inl ao)];exact hm
 have hq:Zh Y t (qw σ.ms) (.eref h v n 0)=some (true,.pv p):=by
  have hg:(l.map enc).getD n []=[p]:=by
   rw[<-hz,ze,qe,ze,zm hlt];rfl
  unfold Zh
  simp only[ha,hs,hlk,qp,hg,qo,qq,zJ]
  simp[hlt]
 obtain⟨r,h1,h2⟩:=kX (P:=P) I.ctxS.sees hq hX
 refine⟨r,w,G,.inl ?_,qH I.ctxS h2 (fun k hk=>by simp[DV.refs] at hk)⟩
 simp only[execOp,qt,h1,qr,qu]
theorem B.slA {α:Type} {enc:α->List PV} {l:List α} {h v sz n:Nat} {k:IntKind} {m:Int} {e T:TypeId} (hx:ev1 s x=.aref h v) (hm:qw s.ms h=some (.arr v sz T (l.map enc))) (hy:ev1 s y=lit (.int k m)) (und:Y.underlying t=some (.slice e)) (hs:szT Y e=some sz)
  (hn:m=(n:Int)) (hle:n<=l.length):Body P Y nb s ⟨dst,.slice t x none (some y) none,ty,pos,af,gd⟩ (.atrunc h v n) [] [h]:=by
 refine .inr (km.of fun σ G a w hv hl I=>?_)
 have hX:=hv x aY
 have hY:=hv y aY
 rw[hx] at hX;rw[hy] at hY
 have hlk:qw σ.ms h=some (.arr v sz T (l.map enc)):=by rw[hl h (.inl ao)];exact hm
 have hq:kn Y t (qw σ.ms) (.aref h v) none (some (lit (.int k m))) none=some (true,.atrunc h v n):=by
  have e0:kn Y t (qw σ.ms) (.aref h v) none (some (lit (.int k m))) none=ku Y t (qw σ.ms) (.aref h v) none (some (lit (.int k m))) none:=by
   unfold kn
   simp only[hlk,und,bound]
  rw[e0]
  unfold ku lit
  subst hn
  have:decide ((0:Int)<=(n:Int)/\(n:Int)<=((l.map enc).length:Int))=true:=zl ⟨aa,by rw[zJ];omega⟩
  simp only[und,bound,hs,hlk,qp,this,zU]
 obtain⟨r,h1,h2⟩:=sliceW_sound (P:=P) I.ctxS.sees hq hX (vlo:=none) (vhi:=some (a.eval y)) (vmx:=none) trivial hY trivial
 refine⟨r,w,G,.inl ?_,qH I.ctxS h2 (fun k hk=>?_)⟩
 ·simp only[execOp,Option.map_none,qf,qt,h1,qr,qu]
 simp only[DV.refs,zg] at hk;subst hk;exact⟨_,hlk⟩
end
theorem eqv_i {k:IntKind} {a b:Int}:eqV (.int k) (.lit (.int .i64 a)) (.lit (.int .i64 b))=some (decide (a=b)):=by
 have:(a==b)=decide (a=b):=rfl
 simp[eqV,this]
theorem eqv_s {a b:List UInt8}:eqV .string (.lit (.string (bsO a))) (.lit (.string (bsO b)))=some (decide (a=b)):=by
 have:decide (a=b)=((bsO a).toList==(bsO b).toList):=by rw[zM];simp[toList_inj,bsO_inj]
 rw[this];rfl
theorem eqv_cons {d:TypeDesc} {ds:List TypeDesc} {x y:PV} {xs ys:List PV} {a b:Bool} (h1:eqV d x y=some a) (h2:eqVs ds xs ys=some b):eqVs (d::ds) (x::xs) (y::ys)=some (a&&b):=by simp only[eqVs,h1,h2]
theorem eqv_last {d:TypeDesc} {x y:PV} {a:Bool} (h1:eqV d x y=some a):eqVs [d] [x] [y]=some a:=by simp only[eqVs,h1,Bool.and_true]
section
variable {P:Program} {Y:Tab} [qM P Y] {nb:Nat} {s:St} {dst:Option Tmp} {ty u:TypeId} {pos:String} {af:Array Edge} {gd:Option (Nat×Bool)} {t:TypeId} {x y:Operand}
theorem B.stqE {ds:List TypeDesc} {xs ys:List PV} {r:Bool} (hx:ev1 s x=.pv (.agg xs)) (hy:ev1 s y=.pv (.agg ys)) (hf:flatEq Y t=some ds) (he:eqVs ds xs ys=some r):Body P Y nb s ⟨dst,.binOp .eql t x y u,ty,pos,af,gd⟩ (lit (.bool r)) [] []:=by
 refine B.bin hx hy ?_
 have h2:binQ Y .eql t (.pv (.agg xs)) (.pv (.agg ys))=some (true,lit (.bool r)):=by
  simp only[binQ,hf,he]
 show qE (binW Y .eql t (qw []) (kP y) _ _)=_
 have h3:binW Y .eql t (qw []) (kP y) (.pv (.agg xs)) (.pv (.agg ys))=some (true,lit (.bool r)):=by
  unfold binW
  simp only[nilQ,nilKind,samePQ,h2]
 rw[h3];rfl
theorem B.stqN {ds:List TypeDesc} {xs ys:List PV} {r:Bool} (hx:ev1 s x=.pv (.agg xs)) (hy:ev1 s y=.pv (.agg ys)) (hf:flatEq Y t=some ds) (he:eqVs ds xs ys=some r):Body P Y nb s ⟨dst,.binOp .neq t x y u,ty,pos,af,gd⟩ (lit (.bool (!r))) [] []:=by
 refine B.bin hx hy ?_
 have h2:binQ Y .neq t (.pv (.agg xs)) (.pv (.agg ys))=some (true,lit (.bool (!r))):=by
  simp only[binQ,hf,he]
 show qE (binW Y .neq t (qw []) (kP y) _ _)=_
 have h3:binW Y .neq t (qw []) (kP y) (.pv (.agg xs)) (.pv (.agg ys))=some (true,lit (.bool (!r))):=by
  unfold binW
  simp only[nilQ,nilKind,samePQ,h2]
 rw[h3];rfl
end
section
variable {P:Program} {n nb:Nat} {Q:Exit->St->Prop} {c:Code} {s:St}
theorem pk_goto [Fc] (hq:∀ l s,¬Q (.goto l) s):∀ {K:List Fr} {l:Nat} {s:St},¬PK P n nb Q K (.goto l) s
 | [],l,s,h=>hq l s h
 | .seq y::K,l,s,h=>pk_goto hq (K:=K) h
 | .blk id::K,l,s,h=>pk_goto hq (K:=K) h
 | .lp C::K,l,s,h=>pk_goto hq (K:=K) h
theorem TK.scope {K:List Fr} (hq:∀ l s,¬Q (.goto l) s) (h:TK P n nb Q c K s):TK P n nb Q (.scope c) K s:=by
 intro G a w R I hn hK
 refine wpIn_wide.2 (wp_scope_straight (wpIn_wide.1 (h G a w _ I hn ?_)))
 intro e s' G1 a1 w1 q I1 Sn1 hn1 hd1
 have:=hK e s' G1 a1 w1 q I1 Sn1 hn1 hd1
 cases e with
 | goto l=>exact absurd q (pk_goto hq)
 | _=>exact this
theorem TK.label [Fc] {K:List Fr} {l:Nat} (h:PK P n nb Q K .normal s):TK P n nb Q (.label l) K s:=by
 intro G a w R I hn hK
 exact wpIn_label (hK _ s G a w h I (Since.refl _ _ _ _) hn (Mks.of Z))
end
theorem wrap_u8 {n:Int} (h0:0<=n) (h1:n<256):IntKind.wrap .u8 n=n:=by
 have e:n%(2 ^ 8:Int)=n:=Int.emod_eq_of_lt h0 aa
 have hb:IntKind.u8.bits=8:=rfl
 have hs:IntKind.u8.signed=false:=rfl
 unfold IntKind.wrap
 simp only[hb,hs,e,Bool.false_and,qo,qq]
section
variable {P:Program} {Y:Tab} [qM P Y] {nb:Nat} {s:St} {dst:Option Tmp} {ty u:TypeId} {pos:String} {af:Array Edge} {gd:Option (Nat×Bool)} {t:TypeId} {x y:Operand}
theorem B.lenA {α:Type} {enc:α->List PV} {l:List α} {h v sz:Nat} {at' e T:TypeId} (hx:ev1 s x=.aref h v) (hm:qw s.ms h=some (.arr v sz T (l.map enc))) (hu:Y.underlying at'=some (.slice e)):Body P Y nb s ⟨dst,.call ⟨.builtin .len,⟨[x]⟩,⟨[at']⟩⟩,ty,pos,af,gd⟩ (lit (.int .i64 (l.length:Int))) [] [h]:=by
 refine .inr (km.of fun σ G a w hv hl I=>?_)
 have hX:=hv x (by simp[Op.operands,Call.operands])
 rw[hx] at hX
 have hlk:qw σ.ms h=some (.arr v sz T (l.map enc)):=by rw[hl h (.inl ao)];exact hm
 have hq:lenQ Y at' (qw σ.ms) (.aref h v)=some (true,lit (.int .i64 (l.length:Int))):=by
  unfold lenQ
  rw[hu]
  simp[lenOf,hlk]
 obtain⟨r,h1,h2⟩:=lenQ_sound (P:=P) (ty:=ty) I.ctxS.sees hq hX
 refine⟨r,w,G,.inl ?_,qH I.ctxS h2 (fun k hk=>by simp[lit,DV.refs] at hk)⟩
 simp only[execOp,resolve,qt,qu,qr,invoke,builtin,List.map_toArray,zA,z6]
 rw[h1];rfl
theorem B.appendZ {α:Type} {enc:α->List PV} {l r:List α} {h v sz:Nat} {T:TypeId} {i:TypeInfo} {at1:TypeId} {d:Tmp} (hx:ev1 s x=.aref h v) (hm:qw s.ms h=some (.arr v sz T (l.map enc))) (hy:ev1 s y=.pv (.slice (r.map enc)))
  (hu:Y.underlying at1=some (.slice T)) (hi:Y.info? T=some i) (hok:(Nat.blt 0 i.size&&i.zero.isSome&&Nat.beq (i.zero.getD default).cells.size i.size&&Nat.beq sz i.size)=true) (hsz:∀ a,(enc a).length=sz) {bs:Nat} (hbs:i.bytes=bs)
  (hlen:(l.length+r.length)*bs<=140737488355328/\l.length+r.length<=9223372036854775807) :
  Body P Y nb s ⟨some d,.call ⟨.builtin .append,⟨[x,y]⟩,⟨[at1,at1]⟩⟩,ty,pos,af,gd⟩ (.pv (.slice ((l++r).map enc))) [(h,.farr (v+1) ((l++r).map enc))] [h]:=by
 subst hbs
 simp only[zj,Nat.beq_eq,Nat.blt_eq] at hok
 obtain⟨⟨⟨k1,k2⟩,k3⟩,k4⟩:=hok
 subst k4
 have e1:evU (tmpsOf [x,y]) s x=.aref h v:=(qW ao).trans hx
 have e2:evU (tmpsOf [x,y]) s y=.pv (.slice (r.map enc)):=(qW ao).trans hy
 have hrs:([x,y].flatMap fun x'=>(evU (tmpsOf [x,y]) s x').refs)=[h]:=by simp[e1,e2,DV.refs]
 have hsel:sel s.ms (reachX s.ms 10000 [h] [])=[(h,.arr v i.size T (l.map enc))]:=by
  have:reachX s.ms 10000 [h] []=[h]:=by
   show (bif ([]:List Nat).any (Nat.beq h) then _ else _)=_
   simp only[List.any_nil,cond_false,hm,MO.refs,zV];rfl
  rw[this];simp only[sel,hm]
 refine .inl ⟨O0,[(h,.arr v i.size T (l.map enc))],_,_,0,0,kl P,?_,?_,?_,?_,Frz.arr _ h (v+1) i.size T ((l++r).map enc),?_⟩
 ·show ledM s.ms ([x,y].flatMap fun x'=>(evU (tmpsOf [x,y]) s x').refs) 2=_
  rw[hrs];exact hsel
 ·show rdM s.ms ([x,y].flatMap fun x'=>(evU (tmpsOf [x,y]) s x').refs) [(h,.arr v i.size T (l.map enc))] 2=_
  rw[hrs];rfl
 ·show (jm [(h,.arr v i.size T (l.map enc))]&&([x,y].flatMap fun x'=>(evU (tmpsOf [x,y]) s x').refs).all (j8 [(h,.arr v i.size T (l.map enc))]))=true
  rw[hrs]
  simp[jm,MO.refs,j8,qG]
 ·have ha:appendV Y 0 at1 at1 (.aref h v) (.pv (.slice (r.map enc))) (qw [(h,.arr v i.size T (l.map enc))]) (qw [(h,.arr v i.size T (l.map enc))])=some ⟨true,.aref h (v+1),[(h,.arr (v+1) i.size T ((l++r).map enc))]⟩:=by
   unfold appendV
   have hl:qw [(h,MO.arr v i.size T (l.map enc))] h=some (.arr v i.size T (l.map enc)):=by rw[qG,if_pos rfl]
   have hs:srcOf Y at1 at1 i (qw [(h,.arr v i.size T (l.map enc))]) (.aref h v) (.pv (.slice (r.map enc)))=some (r.map enc):=by
    unfold srcOf;simp[conts]
   have hq:(decide (0<i.size)&&i.zero.isSome&&decide ((i.zero.getD default).cells.size=i.size))=true:=by
    simp only[zj,zf];exact⟨⟨k1,k2⟩,k3⟩
   have hal:jO i.size (r.map enc)=true:=by
    unfold jO
    rw[zr]
    intro a ha
    obtain⟨b,_,rfl⟩:=zF.1 ha
    simpa using hsz b
   have hle:decide (((l.map enc).length+(r.map enc).length)*i.bytes<=140737488355328/\(l.map enc).length+(r.map enc).length<=9223372036854775807)=true:=by
    simp only[zJ];exact zl hlen
   simp only[hu,hi,hs,hq,hl,qp,and_self,hal,hle,Bool.and_self,qc]
  have hv:effV Y 0 (some d) (.call ⟨.builtin .append,⟨[x,y]⟩,⟨[at1,at1]⟩⟩) (evU (tmpsOf [x,y]) s) (qw [(h,.arr v i.size T (l.map enc))])=some ⟨true,.aref h (v+1),[(h,.arr (v+1) i.size T ((l++r).map enc))]⟩:=by
   show (match truncU _ (evU (tmpsOf [x,y]) s x) with|some (d',h',m)=>_|none=>appendV Y 0 at1 at1 (evU (tmpsOf [x,y]) s x) (evU (tmpsOf [x,y]) s y) _ _)=_
   rw[e1,e2]
   exact ha
  show (match effV Y 0 (some d) (.call ⟨.builtin .append,⟨[x,y]⟩,⟨[at1,at1]⟩⟩) (evU (tmpsOf [x,y]) s) (qw [(h,.arr v i.size T (l.map enc))]) with|some ⟨true,v,m⟩=>some (v,m)|_=>none)=_
  rw[hv]
 simp[j8,qG]
end
section
variable {P:Program} {Y:Tab} [qM P Y] {nb:Nat} {s:St} {dst:Option Tmp} {ty u:TypeId} {pos:String} {af:Array Edge} {gd:Option (Nat×Bool)} {t:TypeId} {x y:Operand}
theorem B.remN {a b:Int} (hx:ev1 s x=lit (.int .i64 a)) (hy:ev1 s y=lit (.int .i64 b)) (ha:0<=a) (hb:0<b):Body P Y nb s ⟨dst,.binOp .rem t x y u,ty,pos,af,gd⟩ (lit (.int .i64 (a%b))) [] []:=by
 have e:a.tmod b=a%b:=Int.tmod_eq_emod_of_nonneg ha
 have:=B.rem (P:=P) (Y:=Y) (nb:=nb) (dst:=dst) (ty:=ty) (u:=u) (pos:=pos) (af:=af) (gd:=gd) (t:=t) hx hy aa
 rw[e] at this;exact this
theorem B.storeR {h c v sz hh:Nat} {T T2:TypeId} {ds ds2:List DV} {es:List (List PV)} (hx:ev1 s x=.bref h c) (hm:qw s.ms h=some (.box T ds)) (hy:ev1 s y=.aref hh v) (hm2:qw s.ms hh=some (.arr v sz T2 es))
  (hs:szT Y t=some 1) (hle:Nat.ble (c+1) ds.length=true) (hd:ds.take c++[.aref hh v]++ds.drop (c+1)=ds2):Body P Y nb s ⟨dst,.store t x y,ty,pos,af,gd⟩ .dead [(h,.box T ds2)] [h,hh]:=by
 subst hd
 refine .inr (km.of fun σ G a w hv hl I=>?_)
 have hX:=hv x aY
 have hY:=hv y aY
 rw[hx] at hX;rw[hy] at hY
 have hlk:qw σ.ms h=some (.box T ds):=by rw[hl h (.inl ao)];exact hm
 have hlk2:qw σ.ms hh=some (.arr v sz T2 es):=by rw[hl hh (.inl ao)];exact hm2
 have C:Ctx G w (fun z=>match z with| .tmp 0=>a.eval x| .tmp 1=>a.eval y|_=>undef) (fun z=>match z with| .tmp 0=>.bref h c| .tmp 1=>.aref hh v|_=>.dead) (qw σ.ms) (qw σ.ms):=by
  refine I.mem.ctx2 (fun z=>?_) (fun z k hk=>?_)
  ·split
   ·exact hX
   ·exact hY
   simp only[qx]
  split at hk
  ·simp only[DV.refs,zg] at hk;subst hk;exact⟨_,hlk⟩
  ·simp only[DV.refs,zg] at hk;subst hk;exact⟨_,hlk2⟩
  simp[DV.refs] at hk
 have hcv:storeV Y t (.bref h c) (.aref hh v) (qw σ.ms)=some ⟨true,.dead,[(h,.box T (ds.take c++[.aref hh v]++ds.drop (c+1)))]⟩:=by
  unfold storeV
  have hok:kz (qw σ.ms) (.aref hh v)=true:=by simp[kz,hlk2]
  have hcl:j2 (.aref hh v)=[.aref hh v]:=rfl
  have hdec:decide (c+1<=ds.length)=true:=zl (zZ hle)
  simp only[hs,hlk,hok,hcl,zb,zd,Nat.zero_add,beq_self_eq_true,Bool.and_self,qp,hdec]
 obtain⟨w',G',h1,h2⟩:=storeV_sound (P:=P) C (t:=t) (a:=.tmp 0) (x:=.tmp 1) hcv rfl
 refine⟨undef,w',G',.inr ⟨?_,rfl⟩,h2⟩
 have lift:∀ {q:Sem Unit} {w':World},q.run P w=.ok () w'->(do q;Pure.pure Next.skip:Sem Next).run P w=.ok .skip w':=by
  intro q w' h
  simp only[qt,h,qr,qu]
 exact lift (q:=Instr.storeAt _ _ _) h1
end
section
variable {P:Program} {Y:Tab} [qM P Y] {nb:Nat} {s:St} {dst:Option Tmp} {ty u:TypeId} {pos:String} {af:Array Edge} {gd:Option (Nat×Bool)} {t:TypeId} {x y:Operand}
theorem B.lookK {h:Nat} {ks vs:List PV} {key z:PV} {r:Option PV} {kt et:TypeId} {kd:TypeDesc} (hx:ev1 s x=.mref h) (hm:qw s.ms h=some (.map ks vs)) (hy:ev1 s y=.pv key) (und:Y.underlying t=some (.map kt et)) (uk:Y.underlying kt=some kd)
  (hz:(Y.info? et).bind (fun i=>i.zero.bind valPV)=some z) (hpk:plainKey kd key=true) (hks:(plainKeys kd ks&&ks.length==vs.length)=true) (hr:kH key ks vs=r) :
  Body P Y nb s ⟨dst,.lookup t x y true,ty,pos,af,gd⟩ (.tup [.pv (r.getD z),lit (.bool r.isSome)]) [] [h]:=by
 subst hr
 refine .inr (km.of fun σ G a w hv hl I=>?_)
 have hX:=hv x aY
 have hY:=hv y aY
 rw[hx] at hX;rw[hy] at hY
 have hlk:qw σ.ms h=some (.map ks vs):=by rw[hl h (.inl ao)];exact hm
 have hq:Ze Y t (mapOf (qw σ.ms) (.mref h)) (.pv key) true=some (true,.tup [.pv ((kH key ks vs).getD z),lit (.bool (kH key ks vs).isSome)]):=by
  have hmo:mapOf (qw σ.ms) (.mref h)=.pv (.map ks vs):=by simp only[mapOf,hlk]
  rw[hmo]
  simp only[Ze,und,uk,hz,hpk,qp,hks]
 obtain⟨r,h1,h2⟩:=lookupW_sound (P:=P) I.ctxS.sees hq hX hY
 refine⟨r,w,G,.inl ?_,qH I.ctxS h2 (fun k hk=>by simp[DV.refs,DV.qP,lit] at hk)⟩
 simp only[execOp,qt,h1,qr,qu]
end
theorem relDVs_at {G1 G2:Gh} {R:Rd} {h2:Nat} (hq:∀ v,qx G1 R .nils v->qx G2 R (.aref h2 0) v):∀ {ds:List DV} {c:Nat} {vs:List Value},ds[c]? =some .nils->(∀ k∈DV.qP ds,G1.keeps G2 k)->qC G1 R ds vs->qC G2 R (ds.set c (.aref h2 0)) vs
 | [],c,vs,hc,_,_=>by simp at hc
 | d::ds,0,vs,hc,hk,H=>by
  have e:d=.nils:=by simpa using hc
  subst e
  simp only[qC,List.set_cons_zero] at H ⊢
  obtain⟨v,vs',rfl,k1,k2⟩:=H
  exact⟨v,vs',rfl,hq v k1,qC.mono (Rd.Le.rfl R) ds vs' (fun k hk2=>hk k aZ) k2⟩
 | d::ds,c+1,vs,hc,hk,H=>by
  simp only[qC,List.set_cons_succ] at H ⊢
  obtain⟨v,vs',rfl,k1,k2⟩:=H
  exact⟨v,vs',rfl,qx.mono (Rd.Le.rfl R) d v (fun k hk2=>hk k (by simp only[DV.qP,zI];exact .inl hk2)) k1,relDVs_at hq (by simpa using hc) (fun k hk2=>hk k aZ) k2⟩
theorem wk_adoptC {nb:Nat} {s:St} {h c h2 sz:Nat} {T0 T:TypeId} {ds:List DV} (hm:qw s.ms h=some (.box T0 ds)) (hc:ds[c]? =some .nils) (hf:qw s.ms h2=none) :
  Wk nb s ⟨s.tm,(h,.box T0 (ds.set c (.aref h2 0)))::(h2,.arr 0 sz T [])::s.ms⟩:=by
 intro G a w I
 have M:=I.mem
 have hb:=M.ms _ _ hm
 have hne:h≠h2:=by rintro rfl;rw[hf] at hm;cases hm
 have L:=Later.refl G w
 have hkeep:∀ k o,qw s.ms k=some o->(G.turn h2 ⟨none,0,0,sz,0,0,true⟩).ρ k=G.ρ k:=by
  intro k o hk
  have:k≠h2:=by rintro rfl;rw[hf] at hk;cases hk
  simp only[Gh.turn,this,qq]
 have hrefs:∀ k∈DV.qP ds,∃ o,qw s.ms k=some o:=fun k hk=>M.refsM h _ k hm hk
 have S1:Stepped G w (qw s.ms) .dead [(h,.box T0 (ds.set c (.aref h2 0))),(h2,.arr 0 sz T [])] (G.turn h2 ⟨none,0,0,sz,0,0,true⟩) w undef:=by
  refine⟨⟨L.base,L.R0,L.R0c,L.R0m,L.os,L.tape,L.output,L.size,L.cold,L.drawn⟩,by simp only[qx],?_,?_,?_,M.fresh,fun _ _ hb=>.inr hb,fun k hk=>by simp[DV.refs] at hk,?_,fun _ _ hb=>.inl hb,fun _ _ _ _ h=>.inl h,fun _ _ _ h=>.inl h⟩
  ·intro k o hk
   simp only[zG,zz,qm,or_false] at hk
   rcases hk with ⟨rfl,rfl⟩|⟨rfl,rfl⟩
   ·simp only[qY] at hb ⊢
    obtain⟨e1,b,c1,e2,e3,e4,e5,e6⟩:=hb
    have er:=hkeep k _ hm
    refine⟨by rw[er];exact e1,b,c1,by rw[er];exact e2,e3,e4,e5,?_⟩
    exact relDVs_at (G1:=G) (fun v hv=>by
     simp only[qx] at hv
     simp only[qx,Gh.turn,qp]
     exact⟨zC _,fun _=>hv⟩) hc (fun k2 hk2=>by
     obtain⟨o,ho⟩:=hrefs k2 hk2
     exact .inl (hkeep k2 o ho)) e6
   simp only[qY,Gh.turn,qp]
   exact⟨trivial,trivial,trivial,rfl,zC _,ao,.inl ⟨trivial,trivial⟩⟩
  ·intro k o hk
   exact .inl (hkeep k o hk)
  ·intro k hk
   simp only[zA,z6,zG,qm,or_false,not_or] at hk
   simp only[Gh.turn,hk.2,qq]
   exact⟨trivial,fun b hb=>⟨hb,trivial⟩⟩
  intro k o hk k2 hh
  simp only[zG,zz,qm,or_false] at hk
  rcases hk with ⟨rfl,rfl⟩|⟨rfl,rfl⟩
  ·simp only[MO.refs] at hh
   obtain⟨d,hd,hkd⟩:=jo.1 hh
   rcases List.mem_or_eq_of_mem_set hd with hd|rfl
   ·exact .inr (hrefs k2 (jo.2 ⟨d,hd,hkd⟩))
   simp only[DV.refs,zg] at hkd
   subst hkd
   exact .inl ao
  simp[MO.refs] at hh
 obtain⟨I1,Sn1⟩:=I.eff (K:=nb) S1 none ao
 exact⟨_,I1,Sn1⟩
theorem TK.adoptC [Fc] {P:Program} {n nb:Nat} {Q:Exit->St->Prop} {K:List Fr} {x:Code} {s:St} {T0:TypeId} {ds ds2:List DV} (h c h2 sz:Nat) (T1:TypeId) (hm:qw s.ms h=some (.box T0 ds)) (hc:ds[c]? =some .nils) (hf:qw s.ms h2=none)
  (hd:ds.set c (.aref h2 0)=ds2) (k:TK P n nb Q x K ⟨s.tm,(h,.box T0 ds2)::(h2,.arr 0 sz T1 [])::s.ms⟩):TK P n nb Q x K s:=by
 subst hd
 exact T.weak (wk_adoptC hm hc hf) k
theorem Inv.act {G:Gh} {σ:Vw} {a a':Act} {w:World} (I:Inv G σ a w) (h:a'.tmps=a.tmps):Inv G σ a' w:=
 ⟨fun s=>by rw[h];exact I.ts s,fun s hs=>I.size s (by rw[<-h];exact hs),I.ms,I.fresh,I.own,I.refsT,I.refsM,I.r0,I.r0m,I.baseLe,I.laid⟩
theorem Inv.look {G:Gh} {tm:List (Nat×DV)} {ms ms':List (Nat×MO)} {a:Act} {w:World} (I:Inv G (St.vw ⟨tm,ms⟩) a w) (h:∀ k,qw ms' k=qw ms k):Inv G (St.vw ⟨tm,ms'⟩) a w:=by
 have e:qw ms'=qw ms:=funext h
 have:St.vw ⟨tm,ms'⟩=St.vw ⟨tm,ms⟩:=by unfold St.vw;simp only[e]
 rw[this];exact I
theorem Inv.turnObj {G:Gh} {tm:List (Nat×DV)} {ms:List (Nat×MO)} {a:Act} {w:World} {K h:Nat} {o o':Obj} {m:MO} (I:Inv G (St.vw ⟨tm,ms⟩) a w) (hm:qw ms h=some (.obj o)) (h2:m=.obj o'\/m=.gone) :
  Inv G (St.vw ⟨tm,(h,m)::ms⟩) a (w.putObj (G.ρ h).map o')/\Since K (qw ms) G w (qw ((h,m)::ms)) G (w.putObj (G.ρ h).map o'):=by
 have hr:m.refs=[]:=by rcases h2 with rfl|rfl<;>rfl
 obtain⟨k1,k2,k3⟩:=I.ms _ _ hm
 have S:=q7 (m:=m) (val:=.dead) (r:=undef) I.ctxS (B:=G.ρ h) (h:=h) hm bc (w':=w.putObj (G.ρ h).map o') Z Z Z ao
  (fun b hb=>World.putObj_heap_other (by rintro rfl;exact hb k2)) aD (by
   rw[Gh.qU]
   rcases h2 with rfl|rfl
   ·exact⟨k1,k2,World.putObj_heap_same (zT.1 k3).1⟩
   trivial) ak (by rw[hr];simp)
 rw[Gh.qU] at S
 exact I.eff (s:=⟨tm,ms⟩) (K:=K) S none ao
def YieldAs (P:Program) (l:Nat) (vs:Array Value) (w:World) (R:Value->World->Prop):Prop:=
 ∃ fn tmps assign body,(Instr.yield l vs).run P w=.ok (.round l fn tmps assign body) w/\RoundIn Fence.wide 0 P l fn tmps assign body w fun e w'=>∃ r,e=.returned r/\R r w'
structure YldOk (P:Program) (h:Nat) (us:List Value) (ds args:List DV) (look:Nat->Option MO) (val:DV) (ms:List (Nat×MO)):Prop where
 call:∀ (G:Gh) (w:World) (vs:Array Value),Zc G look w->qx G (G.rd w) (.yld h us ds) (.func (.yield (G.ρ h).map) #[] #[])->qC G (G.rd w) args vs.toList->
  YieldAs P (G.ρ h).map vs w fun r w'=>∃ G',Stepped G w look val ms G' w' r
theorem YldOk.frame {P:Program} {h:Nat} {us:List Value} {ds args:List DV} {l L:Nat->Option MO} {val:DV} {ms:List (Nat×MO)} (H:YldOk P h us ds args l val ms)
  (hsub:∀ h o,l h=some o->L h=some o) (hcl:∀ k o h,l k=some o->h∈o.refs->∃ o',l h=some o') (hnew:∀ h,h∈ms.map (·.1)->l h=none->L h=none):YldOk P h us ds args L val ms:=by
 refine⟨fun G w vs M hy hv=>?_⟩
 obtain⟨fn,t,avs,b,e1,R⟩:=H.call (G.part w l) w vs (M.part (fun h o e=>.inl (hsub h o e)) hcl) (qx.mono (G:=G) (part_le M) _ _ (fun _ _=>.inl rfl) hy) (qC.mono (G:=G) (part_le M) _ _ (fun _ _=>.inl rfl) hv)
 refine⟨fn,t,avs,b,e1,RoundIn.mono R ?_⟩
 rintro e w' ⟨r,rfl,G1,S⟩
 obtain⟨G2,S2⟩:=S.frame M (fun h o e=>.inl (hsub h o e)) hcl hnew
 exact⟨r,rfl,G2,S2⟩
section
variable {P:Program} {Y:Tab} [qM P Y] {nb:Nat} {s:St} {dst:Option Tmp} {ty:TypeId} {pos:String} {af:Array Edge} {gd:Option (Nat×Bool)}
theorem B.yieldS {f:Operand} {args:Array Operand} {ats:Array TypeId} {h:Nat} {us:List Value} {ds avs:List DV} {val:DV} {l out:List (Nat×MO)} (H:YldOk P h us ds avs (qw l) val out) (hf:ev1 s f=.yld h us ds)
  (hds:args.toList.map (ev1 s)=avs) (hsub:SubL s.ms l) (hcl:jm l=true) (hnew:out.all (fun p=>j8 l p.1||!j8 s.ms p.1)=true):Body P Y nb s ⟨dst,.call ⟨.value f,args,ats⟩,ty,pos,af,gd⟩ val out (l.map (·.1)):=by
 refine .inr fun σ G a w next Q h1 h2 I hn rr=>?_
 have hops:(Op.call ⟨.value f,args,ats⟩).operands.toList=f::args.toList:=call_ops
 rw[hops] at h1
 have hev:∀ z∈f::args.toList,ev1 σ z=ev1 s z:=fun z hz=>ev1_agree h1 hz
 have hF:qx G (G.rd w) (ev1 s f) (a.eval f):=by rw[<-hev f ao];exact kI I f
 rw[hf] at hF
 have hF0:=hF
 simp only[qx] at hF
 obtain⟨g1,g2,g3⟩:=hF
 have hargs:qC G (G.rd w) (args.toList.map (ev1 s)) (args.toList.map a.eval):=by
  rw[<-List.map_congr_left (f:=ev1 σ) (g:=ev1 s) (fun z hz=>hev z (by simp[hz]))]
  have:∀ l:List Operand,qC G (G.rd w) (l.map (ev1 σ)) (l.map a.eval):=by
   intro l
   induction l with
   | nil=>simp[qC]
   | cons z l ih=>simp only[zA,qC];exact⟨_,_,rfl,kI I z,ih⟩
  exact this _
 have HL:YldOk P h us ds avs (qw σ.ms) val out:=by
  refine H.frame (fun h o e=>?_) (fun k o h e hh=>jP hcl k o e h hh) (fun h hh e=>?_)
  ·obtain⟨e1,e2⟩:=hsub.look e
   rw[h2 h (.inl e2)];exact e1
  rw[h2 h (.inr hh)];exact allHas hnew h hh e
 obtain⟨fn,t,avs',b,e1,R⟩:=HL.call G w (args.map a.eval) I.mem (by rw[<-g2];exact hF0) (by rw[<-hds];simpa using hargs)
 have hexec:(execOp a.eval ⟨dst,.call ⟨.value f,args,ats⟩,ty,pos,af,gd⟩).run P w=(Instr.yield (G.ρ h).map (args.map a.eval)).run P w:=by
  simp only[execOp,resolve,g2,Deferred.ofValue,qt,qu,qr,invoke,Array.empty_append]
 refine⟨fun _ _=>trivial,?_⟩
 show Oper.uponIn (fcR rr) 0 P _ a next Q ((Oper.semAt rr a.eval _).run P w)
 rw[Oper.semAt_eq _ _ _ ao,hexec,e1,Oper.uponIn_round]
 refine⟨(fun hh=>by simp[fcR,Fence.wide] at hh),RoundIn.mono (F:=Fence.wide) R ?_⟩
 rintro e w' ⟨r,rfl,G',S⟩
 exact hn r w' G' S
end
def recL (fn:FuncId) (us:List Value) (ps:Array Tmp) (assign body:Code) (D:Nat) (st:LoopState) (pe:Option Code):Obj:=
 .loop { state:=st,pending:=pe,fn,tmps:=us.toArray,params:=ps,assign,body,defers:=D }
def zipP:List Tmp->List DV->List (Nat×DV)->List (Nat×DV)
 | p::ps,d::ds,tm=>zipP ps ds ((p,d)::tm)
 | _,_,tm=>tm
theorem zipP_rel {G:Gh} {R:Rd} {n:Nat}:∀ {ps:List Tmp} {args:List DV} {vs:List Value} {tm:List (Nat×DV)} {tmps:Array Value},ps.length=args.length->(∀ p∈ps,p<n)->tmps.size=n->qC G R args vs->
  (∀ s,qx G R (jx tm s) (tmps.getD s undef))->(∀ s,n<=s->jx tm s=.dead)->
  (∀ s,qx G R (jx (zipP ps args tm) s) (((ps.zip vs).foldl (fun t (p:Tmp×Value)=>t.setIfInBounds p.1 p.2) tmps).getD s undef))/\(∀ s,n<=s->jx (zipP ps args tm) s=.dead)/\
   ((ps.zip vs).foldl (fun t (p:Tmp×Value)=>t.setIfInBounds p.1 p.2) tmps).size=n
 | [],[],vs,tm,tmps,_,_,hn,h,h1,h2=>by
  simp only[qC] at h
  subst h
  exact⟨h1,h2,hn⟩
 | p::ps,[],vs,tm,tmps,hl,_,hn,h,h1,h2=>by simp at hl
 | [],d::ds,vs,tm,tmps,hl,_,hn,h,h1,h2=>by simp at hl
 | p::ps,d::ds,vs,tm,tmps,hl,hp,hn,h,h1,h2=>by
  simp only[qC] at h
  obtain⟨v,vs',rfl,hv,hvs⟩:=h
  have hpn:=hp p ao
  simp only[zipP,List.zip_cons_cons,List.foldl_cons]
  refine zipP_rel (by simpa using hl) (fun q hq=>hp q (by simp[hq])) (by simpa using hn) hvs (fun s=>?_) (fun s hs=>?_)
  ·rw[ju]
   simp only[zD,Array.getElem?_setIfInBounds]
   by_cases e:p=s
   ·subst e;simp[hn,hpn,hv]
   simp only[e,qq]
   simpa [zD] using h1 s
  have hne:p≠s:=fun e=>by rw[e] at hpn;exact absurd hs (Nat.not_le.2 hpn)
  rw[ju,if_neg hne]
  exact h2 s hs
theorem zipP_refs:∀ {ps:List Tmp} {args:List DV} {tm:List (Nat×DV)} {s h:Nat},h∈(jx (zipP ps args tm) s).refs->h∈DV.qP args\/∃ s,h∈(jx tm s).refs
 | [],args,tm,s,h,hh=>by cases args<;>exact .inr ⟨s,hh⟩
 | p::ps,[],tm,s,h,hh=>.inr ⟨s,hh⟩
 | p::ps,d::ds,tm,s,h,hh=>by
  simp only[zipP] at hh
  rcases zipP_refs hh with e|⟨s',e⟩
  ·exact .inl (by simp[DV.qP,e])
  rw[ju] at e
  split at e
  ·exact .inl (by simp[DV.qP,e])
  exact .inr ⟨s',e⟩
section
variable {P:Program} {n nb:Nat}
theorem YldOk.of {hl:Nat} {us:List Value} {ds args:List DV} {ps:Array Tmp} {assign body:Code} {fn:FuncId} {D:Nat} {l0 l1 out:List (Nat×MO)} {tm1:List (Nat×DV)} (b:Bool)
  (hus:us.length=n) (hps:ps.toList.length=args.length) (hpn:∀ t∈ps.toList,t<n) (hK:∀ h o,qw l0 h=some o->h<nb)
  (h0:qw l0 hl=some (.obj (recL fn us ps assign body D .ready none))) (href:(DV.qP (args++ds)).all (j8 l0)=true)
  (hA:∀ r:Nat, @T _ ⟨some r⟩ P n nb assign ⟨zipP ps.toList args (zipT 0 ds),l0⟩ fun e s'=>e=.normal/\Sub nb s' ⟨tm1,l1⟩)
  (h1:qw l1 hl=some (.obj (recL fn us ps assign body D .ready none)))
  (hB:∀ r:Nat, @T _ ⟨some r⟩ P n nb body ⟨tm1,(hl,.obj (recL fn us ps assign body D .busy none))::l1⟩ fun e s'=>e=(bif b then .normal else .ret)/\Sub nb s' ⟨[],(hl,.obj (recL fn us ps assign body D .busy none))::out⟩)
  (hne:∀ p∈out,p.1≠hl) (hnd:∀ h o,(h,o)∈out->qw out h=some o) (hold:l0.all (fun p=>j8 ((hl,.gone)::out) p.1)=true) (hcl:jm ((hl,.gone)::out)=true) :
  YldOk P hl us ds args (qw l0) (lit (.bool b)) ((hl,.obj (recL fn us ps assign body D (bif b then .ready else .done) (bif b then none else some .ret)))::out):=by
 refine⟨fun G w vs M hy hv=>?_⟩
 simp only[qx] at hy
 obtain⟨ha,_,hds⟩:=hy
 obtain⟨k1,k2,k3⟩:=M.ms _ _ h0
 have hvl:vs.size=ps.size:=by
  have e1:=hv.length
  have:ps.size=args.length:=by simpa using hps
  simp at e1
  omega
 have hdl:ds.length=n:=by have:=hds.length;omega
 have hy:=run_yield (P:=P) (args:=vs) k3 hvl
 have hbase:∀ s,qx G (G.rd w) (jx (zipT 0 ds) s) (us.toArray.getD s undef):=by
  intro s
  by_cases hs:s<n
  ·rcases getT_zipT G (G.rd w) ds us 0 s hds with h|h
   ·omega
   have:us.toArray.getD s undef=(us[s-0]?).getD undef:=by simp[zD]
   rw[this];exact h
  rw[j3 ds 0 s aa];simp only[qx]
 obtain⟨z1,z2,z3⟩:=zipP_rel (G:=G) (R:=G.rd w) (n:=n) (ps:=ps.toList) (args:=args) (vs:=vs.toList) (tm:=zipT 0 ds) (tmps:=us.toArray) hps hpn (by simpa using hus) hv hbase (fun s hs=>j3 ds 0 s aa)
 have hfold:(ps.zip vs).foldl (fun (tmps:Array Value) (x:Tmp×Value)=>tmps.setIfInBounds x.1 x.2) us.toArray=(ps.toList.zip vs.toList).foldl (fun t (p:Tmp×Value)=>t.setIfInBounds p.1 p.2) us.toArray:=by
  rw[<-Array.foldl_toList,Array.toList_zip]
 rw[<-hfold] at z1 z3
 have hrf:∀ h∈DV.qP (args++ds),∃ o,qw l0 h=some o:=fun h hh=>ke.1 (zr.1 href h hh)
 have hrL:∀ (xs ys:List DV),DV.qP (xs++ys)=DV.qP xs++DV.qP ys:=by
  intro xs ys
  induction xs with
  | nil=>rfl
  | cons x xs ih=>simp only[zR,DV.qP,ih,z8]
 rw[hrL] at hrf
 have I0:Inv G (St.vw ⟨zipP ps.toList args (zipT 0 ds),l0⟩) ⟨(ps.zip vs).foldl (fun (tmps:Array Value) (x:Tmp×Value)=>tmps.setIfInBounds x.1 x.2) us.toArray,[]⟩ w:=by
  refine⟨z1,fun s hs=>z2 s (by simp only at hs;omega),M.ms,M.fresh,M.own,fun s h hh=>?_,M.refsM,M.r0,M.r0m,M.baseLe,M.laid⟩
  rcases zipP_refs (show h∈(jx (zipP ps.toList args (zipT 0 ds)) s).refs from hh) with e|⟨s',e⟩
  ·exact hrf h (by simp[e])
  exact hrf h (List.mem_append_right _ (refs_zipT ds 0 s' h e))
 have hlK:=hK _ _ h0
 have keepρ:∀ {G':Gh},G.keeps G' hl->G'.ρ hl=G.ρ hl:=by
  rintro G' (e|⟨e,_⟩)
  ·exact e
  rw[k1] at e;cases e
 refine⟨fn,_,assign,body,hy,roundIn_of_wpIn (F:=Fence.wide) trivial ?_⟩
 refine hA (G.ρ hl).map G _ w _ I0 z3 ?_
 rintro e s' G1 a1 w1 ⟨rfl,hs'⟩ I1 Sn1 hn1 hd1
 obtain⟨G1',I1',Sn1'⟩:=hs'.wk I1
 have Sn:=Sn1.trans Sn1'
 obtain⟨_,k4,k5⟩:=I1'.ms _ _ h1
 have e1:=keepρ (Sn.keeps hl _ hlK h0).1
 rw[e1] at k4 k5
 refine⟨_,run_beginRound k5 Z,?_⟩
 obtain⟨I2,Sn2⟩:=I1'.turnObj (K:=nb) (o':=recL fn us ps assign body D .busy none) h1 (.inl rfl)
 rw[e1] at I2 Sn2
 refine hB (G.ρ hl).map G1' a1 _ _ I2 hn1 ?_
 rintro e s2 G2 a2 w3 ⟨rfl,hs2⟩ I3 Sn3 hn3 hd3
 obtain⟨G2',I3',Sn3'⟩:=hs2.wk I3
 have SnB:=((Sn.trans Sn2).trans Sn3).trans Sn3'
 have hlb:qw ((hl,MO.obj (recL fn us ps assign body D .busy none))::out) hl=some (.obj (recL fn us ps assign body D .busy none)):=by rw[qG,if_pos rfl]
 obtain⟨_,k6,k7⟩:=I3'.ms _ _ hlb
 have e2:=keepρ (SnB.keeps hl _ hlK h0).1
 rw[e2] at k6 k7
 have hend:=run_endRound (P:=P) (bif b then none else some Code.ret) k7
 obtain⟨I4,Sn4⟩:=I3'.turnObj (K:=nb) (o':=recL fn us ps assign body D (bif b then .ready else .done) (bif b then none else some .ret)) hlb (.inl rfl)
 rw[e2] at I4 Sn4
 have hself:∀ (m:MO) (l:List (Nat×MO)),qw ((hl,m)::l) hl=some m:=fun m l=>by rw[qG,if_pos rfl]
 have hskip:∀ (m m':MO) (h:Nat) (o:MO),h≠hl->qw out h=some o->qw ((hl,m)::(hl,m')::out) h=some o:=fun m m' h o e e2=>by
  rw[qG,if_neg (fun x=>e x.symm),qG,if_neg (fun x=>e x.symm)];exact e2
 have fin:∃ G'',Stepped G w (qw l0) (lit (.bool b)) ((hl,.obj (recL fn us ps assign body D (bif b then .ready else .done) (bif b then none else some .ret)))::out) G'' (w3.putObj (G.ρ hl).map (recL fn us ps assign body D (bif b then .ready else .done) (bif b then none else some .ret))) (.bool b):=by
  refine Since.close (K:=nb) M I4 (SnB.trans Sn4) hK (by simp[qx,qN,lit,isLit]) (fun h o hm=>?_) (fun h o ho=>?_) (by simp[DV.refs,lit]) (fun k o hk h hh=>?_)
  ·rcases zG.1 hm with e|hm
   ·cases e
    exact hself (.obj (recL fn us ps assign body D (bif b then .ready else .done) (bif b then none else some .ret))) ((hl,.obj (recL fn us ps assign body D .busy none))::out)
   exact hskip _ _ h o (hne _ hm) (hnd h o hm)
  ·have:=zr.1 hold _ (jt ho)
   obtain⟨o',ho'⟩:=ke.1 this
   have:=jt ho'
   simp only[zA,zG]
   rcases zG.1 this with e|e
   ·exact .inl (congrArg Prod.fst e)
   exact .inr (zF.2 ⟨_,e,rfl⟩)
  rcases zG.1 hk with e|hk
  ·cases e;simp[MO.refs] at hh
  have hk':qw ((hl,MO.gone)::out) k=some o:=by rw[qG,if_neg (fun e=>hne _ hk e.symm)];exact hnd k o hk
  obtain⟨o',ho'⟩:=jP hcl k o hk' h hh
  have:=jt ho'
  simp only[zA,zG]
  rcases zG.1 this with e|e
  ·exact .inl (congrArg Prod.fst e)
  exact .inr (zF.2 ⟨_,e,rfl⟩)
 obtain⟨G'',S⟩:=fin
 cases b with
 | true=>exact⟨_,_,hend,_,rfl,G'',S⟩
 | false=>exact⟨_,_,hend,_,rfl,G'',S⟩
theorem mks_one {a:Act} {w w':World} {G':Gh} {r:Nat} (h:w.heap.size<=r) (h2:G'.γ r=none) (h3:w'.heap[r]? =some (.deferred (some []))):Mks a w G' { a with defers:=[mkD r]++a.defers } w':=
 ⟨[r],rfl,by simp,fun x hx=>by rw[zg.1 hx];exact⟨h,h2,h3⟩⟩
theorem T.range {g:Operand} {ps:Array Tmp} {assign body:Code} {s:St} {Q:Exit->St->Prop} {f:FuncId} {first caps ds:List DV} {hl:Nat} {val:DV} {out:List (Nat×MO)} {st:LoopState} (pe:Bool)
  (he:∀ args w,(callFunc f args).run P w=.ok (.enter f args) w) (hg:tgtX (ev1 s g)=some (f,first,caps)) (hl0:qw s.ms hl=none)
  (hdl:ds.length=n) (hds:∀ i,i<n->ds.getD i .dead=jx s.tm i\/ds.getD i .dead=.dead)
  (H:∀ (us:List Value) (fn:FuncId) (D:Nat),us.length=n->qD P f (first++[.yld hl us ds]++caps) (qw ((hl,.obj (recL fn us ps assign body D .ready none))::s.ms)) val ((hl,.obj (recL fn us ps assign body D st (bif pe then some .ret else none)))::out))
  (hst:st≠.busy) (hout:∀ p∈out,p.1≠hl) (hq:Q (bif pe then .ret else .normal) ⟨s.tm,(hl,.gone)::(out++s.ms)⟩):T P n nb (.rangeFunc g ps assign body) s Q:=by
 intro G a w R I hn hK
 refine wpIn_rangeFunc (F:=Fence.wide) ?_
 intro fn _
 obtain⟨vx,vy,ef,g1,g2⟩:=tgtX_sound hg (kI I g)
 obtain⟨us,hus⟩:∃ us,us=a.tmps.toList:=⟨_,rfl⟩
 have husl:us.length=n:=by rw[hus];simpa using hn
 obtain⟨rc,hrc⟩:∃ rc,rc=recL fn us ps assign body w.heap.size .ready none:=⟨_,rfl⟩
 obtain⟨W1,hW1⟩:∃ W1,W1=w.alloc (.deferred (some [])):=⟨_,rfl⟩
 have hs1:W1.heap.size=w.heap.size+1:=by rw[hW1];simp
 have S1:Stepped G w (qw s.ms) .dead [] G W1 undef:=by
  rw[hW1]
  exact ki I.ctxS Z Z Z ao (fun b hb=>by first|exact heap_alloc_old w _ b hb|exact heap_alloc_old w _ hb) aD rfl
 obtain⟨I1,Sn1⟩:=I.eff (K:=nb) S1 none ao
 have I1:Inv G s.vw a W1:=I1
 have hD1:W1.heap[w.heap.size]? =some (.deferred (some [])):=by rw[hW1];exact World.alloc_heap_new w _
 have gD1:G.γ w.heap.size=none:=by
  cases hq:G.γ w.heap.size with
  | none=>rfl
  | some h=>have:=I.fresh _ _ hq;omega
 obtain⟨W2,hW2⟩:∃ W2,W2=W1.alloc rc:=⟨_,rfl⟩
 have S2:Stepped G W1 (qw s.ms) .dead [(hl,.obj rc)] (G.new hl { map:=W1.heap.size } W1.heap.size) W2 undef:=by
  rw[hW2]
  refine jw (B:={ map:=W1.heap.size }) I1.fresh hl0 aD ?_ ak am
  simp only[qY]
  exact⟨by simp[Gh.new],by simp[Gh.new],by simp only[Gh.new,qp];exact heap_alloc_new W1 _⟩
 obtain⟨I2,Sn2⟩:=I1.eff (K:=nb) S2 none ao
 obtain⟨G2,hG2⟩:∃ G2,G2=G.new hl { map:=W1.heap.size } W1.heap.size:=⟨_,rfl⟩
 rw[<-hG2] at I2 Sn2 S2
 have I2:Inv G2 (St.vw ⟨s.tm,(hl,.obj rc)::s.ms⟩) a W2:=I2
 have Sn2:Since nb (qw s.ms) G W1 (qw ((hl,.obj rc)::s.ms)) G2 W2:=Sn2
 have hρ:G2.ρ hl={ map:=W1.heap.size }:=by rw[hG2];simp[Gh.new]
 have hlr:qw ((hl,MO.obj rc)::s.ms) hl=some (.obj rc):=by rw[qG,if_pos rfl]
 have L2:=Sn2.later.rd
 have hR2:(G.rd w).Le (G2.rd W2):=(Sn1.trans Sn2).later.rd
 have hk2:∀ h,(∃ o,qw s.ms h=some o)->G.keeps G2 h:=by
  rintro h ⟨o,ho⟩
  exact .inl (by rw[hG2];simp only[Gh.new];rw[if_neg (by rintro rfl;rw[hl0] at ho;cases ho)])
 have tr:∀ (d:DV) (v:Value),(∀ h∈d.refs,∃ o,qw s.ms h=some o)->qx G (G.rd w) d v->qx G2 (G2.rd W2) d v:=fun d v hr h=>qx.mono hR2 d v (fun k hk=>hk2 k (hr k hk)) h
 have hgr:∀ h∈(ev1 s g).refs,∃ o,qw s.ms h=some o:=ev1_refs I g
 have hcl:∀ h,(h∈DV.qP first\/h∈DV.qP caps)->h∈(ev1 s g).refs:=by
  intro h hh
  have hp:∀ ps:List PV,DV.qP (ps.map .pv)=[]:=by
   intro ps
   induction ps with
   | nil=>rfl
   | cons p ps ih=>simp only[zA,DV.qP,DV.refs,zV];exact ih
  revert hg
  generalize ev1 s g=d
  intro hg
  unfold tgtX at hg
  split at hg
  ·cases hg
   rw[hp,hp] at hh
   simp at hh
  ·cases hg
   simpa [DV.refs] using hh
  cases hg
 have trs:∀ (l:List DV) (vs:List Value),(∀ h∈DV.qP l,∃ o,qw s.ms h=some o)->qC G (G.rd w) l vs->qC G2 (G2.rd W2) l vs:=fun l vs hr h=>qC.mono hR2 l vs (fun k hk=>hk2 k (hr k hk)) h
 have hy:qx G2 (G2.rd W2) (.yld hl us ds) (.func (.yield W1.heap.size) #[] #[]):=by
  simp only[qx]
  refine⟨by rw[hρ],by rw[hρ],?_⟩
  have hall:∀ (l:List DV) (vs:List Value),l.length=vs.length->(∀ i,qx G2 (G2.rd W2) (l.getD i .dead) (vs.getD i undef))->qC G2 (G2.rd W2) l vs:=by
   intro l
   induction l with
   | nil=>intro vs h _;simp only[qC];exact zL h.symm
   | cons d l ih=>
    intro vs h hi
    cases vs with
    | nil=>simp at h
    | cons v vs=>
     simp only[qC]
     exact⟨v,vs,rfl,by simpa using hi 0,ih vs ai (fun i=>by simpa using hi (i+1))⟩
  refine hall ds us aa (fun i=>?_)
  by_cases hin:i<n
  ·rcases hds i hin with e|e
   ·rw[e]
    have:=I.ts i
    have e3:us.getD i undef=a.tmps.getD i undef:=by rw[hus];simp[zD,ze]
    rw[e3]
    exact tr _ _ (fun h hh=>I.refsT i h hh) this
   rw[e];simp only[qx]
  rw[ze,qg aa];simp only[Option.getD_none,qx]
 have hv:qC G2 (G2.rd W2) (first++[.yld hl us ds]++caps) (vx++ #[Value.func (.yield W1.heap.size) #[] #[]]++vy).toList:=by
  simp only[Array.toList_append]
  refine ((trs _ _ (fun h hh=>hgr h (hcl h (.inl hh))) g1).append ?_).append (trs _ _ (fun h hh=>hgr h (hcl h (.inr hh))) g2)
  simp only[qC]
  exact⟨_,_,rfl,hy,rfl⟩
 have hcall:=(H us fn w.heap.size husl).call G2 W2 _ (by rw[<-hrc];exact I2.mem) hv
 refine⟨w.heap.size+1,[mkD w.heap.size],W2,{ target:=.fn (.func f) vy,args:=vx++ #[Value.func (.yield (w.heap.size+1)) #[] #[]] },W2,f,vx++ #[Value.func (.yield (w.heap.size+1)) #[] #[]]++vy,W2,?_,?_,fun _ _=>trivial,?_,(fun hh=>by simp[Fence.wide] at hh),?_⟩
 ·have:=run_enterLoop_outer (P:=P) (w:=w) fn a.tmps ps assign body
  rw[hW2,hW1,hrc]
  simp only[recL,hus]
  exact this
 ·simp only[resolve,ef,Deferred.ofValue,qu]
  simp
  rfl
 ·simp only[invoke]
  exact he _ _
 rw[hs1] at hcall
 rcases hcall with ⟨_,hc⟩|⟨r,w',hrun,_⟩
 rotate_left
 ·rw[he] at hrun;cases hrun
 refine callsIn_wide.2 (Calls.mono hc ?_)
 rintro e w3 ⟨r,rfl,G3,S3⟩
 rw[<-hrc] at S3
 obtain⟨I3,Sn3⟩:=I2.eff (s:=⟨s.tm,(hl,.obj rc)::s.ms⟩) (K:=nb) S3 none ao
 obtain⟨rc',hrc'⟩:∃ rc',rc'=recL fn us ps assign body w.heap.size st (bif pe then some .ret else none):=⟨_,rfl⟩
 rw[<-hrc'] at I3 Sn3 S3
 have I3:Inv G3 (St.vw ⟨s.tm,((hl,.obj rc')::out)++(hl,.obj rc)::s.ms⟩) a w3:=I3
 have Sn3:Since nb (qw ((hl,.obj rc)::s.ms)) G2 W2 (qw (((hl,.obj rc')::out)++(hl,.obj rc)::s.ms)) G3 w3:=Sn3
 have hl3:qw (((hl,MO.obj rc')::out)++(hl,.obj rc)::s.ms) hl=some (.obj rc'):=by rw[zR,qG,if_pos rfl]
 obtain⟨k1,k2,k3⟩:=I3.ms _ _ hl3
 have hρ3:G3.ρ hl=G2.ρ hl:=by
  rcases S3.keeps hl _ hlr with e|⟨e,_⟩
  ·exact e
  rw[hρ] at e;cases e
 obtain⟨I4,Sn4⟩:=I3.turnObj (K:=nb) (o':=.loop { state:=.exhausted,pending:=(bif pe then some .ret else none),fn,tmps:=us.toArray,params:=ps,assign,body,defers:=w.heap.size }) hl3 (.inr rfl)
 rw[hρ3,hρ] at k2 k3 I4 Sn4
 simp only[hs1] at k2 k3 I4 Sn4
 rw[hrc'] at k3
 refine⟨_,_,run_endLoop k3 hst,?_⟩
 have hlook:∀ k,qw ((hl,MO.gone)::(out++s.ms)) k=qw ((hl,.gone)::(((hl,.obj rc')::out)++(hl,.obj rc)::s.ms)) k:=by
  intro k
  by_cases e:hl=k
  ·rw[qG,qG,if_pos e,if_pos e]
  rw[qG,qG,if_neg e,if_neg e,zR,qG,if_neg e,lookM_append,lookM_append,qG,if_neg e]
 have I5:=(I4.look hlook).act (a':={ a with defers:=[mkD w.heap.size]++a.defers }) rfl
 have Sn5:=((Sn1.trans Sn2).trans Sn3).trans Sn4
 rw[<-funext hlook] at Sn5
 have L:=((Sn2.trans Sn3).trans Sn4).later
 obtain⟨c1,c2⟩:=L.cold w.heap.size aa gD1
 have M5:=mks_one (a:=a) (w:=w) (zC _) c2 (c1.trans hD1)
 cases pe with
 | false=>exact hK _ _ _ _ _ hq I5 Sn5 hn M5
 | true=>exact wpIn_ret (hK _ _ _ _ _ hq I5 Sn5 hn M5)
theorem TK.range {g:Operand} {ps:Array Tmp} {assign body:Code} {s:St} {Q:Exit->St->Prop} {K:List Fr} {f:FuncId} {first caps ds:List DV} {hl:Nat} {val:DV} {out:List (Nat×MO)} {st:LoopState} (pe:Bool)
  (he:∀ args w,(callFunc f args).run P w=.ok (.enter f args) w) (hg:tgtX (ev1 s g)=some (f,first,caps)) (hl0:qw s.ms hl=none)
  (hdl:ds.length=n) (hds:∀ i,i<n->ds.getD i .dead=jx s.tm i\/ds.getD i .dead=.dead)
  (H:∀ (us:List Value) (fn:FuncId) (D:Nat),us.length=n->qD P f (first++[.yld hl us ds]++caps) (qw ((hl,.obj (recL fn us ps assign body D .ready none))::s.ms)) val ((hl,.obj (recL fn us ps assign body D st (bif pe then some .ret else none)))::out))
  (hst:st≠.busy) (hout:∀ p∈out,p.1≠hl) (hq:PK P n nb Q K (bif pe then .ret else .normal) ⟨s.tm,(hl,.gone)::(out++s.ms)⟩):TK P n nb Q (.rangeFunc g ps assign body) K s:=
 T.range pe he hg hl0 hdl hds H hst hout hq
end
section
variable {P:Program} {Y:Tab} [qM P Y] {nb:Nat} {s:St} {dst:Option Tmp} {ty u:TypeId} {pos:String} {af:Array Edge} {gd:Option (Nat×Bool)} {t:TypeId} {x y z:Operand}
theorem B.loadEA {α:Type} {enc:α->List PV} {l:List α} {z0:α} {h v sz n k:Nat} {T:TypeId} (hx:ev1 s x=.eref h v n 0) (hm:qw s.ms h=some (.arr v sz T (l.map enc))) (ha:aggT Y t=some true) (hs:szT Y t=some k)
  (hlt:n<l.length) (hz:(enc (l.getD n z0)).length=k):Body P Y nb s ⟨dst,.load t x,ty,pos,af,gd⟩ (.pv (.agg (enc (l.getD n z0)))) [] [h]:=by
 refine .inr (km.of fun σ G a w hv hl I=>?_)
 have hX:=hv x aY
 rw[hx] at hX
 have hlk:qw σ.ms h=some (.arr v sz T (l.map enc)):=by rw[hl h (.inl ao)];exact hm
 have hg:(l.map enc).getD n []=enc (l.getD n z0):=by
  rw[ze,qe,ze,zm hlt];rfl
 have hq:Zh Y t (qw σ.ms) (.eref h v n 0)=some (true,.pv (.agg (enc (l.getD n z0)))):=by
  unfold Zh
  simp only[ha,hs,hlk,qp,hg,zJ,List.drop_zero,Nat.zero_add,hz]
  rw[zB aa]
  simp[hlt]
 obtain⟨r,h1,h2⟩:=kX (P:=P) I.ctxS.sees hq hX
 refine⟨r,w,G,.inl ?_,qH I.ctxS h2 (fun k hk=>by simp[DV.refs] at hk)⟩
 simp only[execOp,qt,h1,qr,qu]
end
section
variable {P:Program} {Y:Tab} [qM P Y] {n nb:Nat} {ops:Array Oper} {s:St} {Q:Exit->St->Prop} {K:List Fr} {c:Code}
theorem T.nilM [Fc] {id d1 d2:Nat} {x:Operand} {t u ty1 ty2 e:TypeId} {p1 p2:String} {af1 af2:Array Edge} {es:List (List PV)}
  (hops:ops.toList=[⟨some d1,.move x,ty1,p1,af1,none⟩,⟨some d2,.binOp .eql t (.tmp d1) (.const (.slice none 0 0)) u,ty2,p2,af2,none⟩]) (hda:jA n (.region id ops false)=true)
  (hx:ev1 s x=.pv (.slice es)) (und:Y.underlying t=some (.slice e))
  (hT:es=[]->Q .normal ⟨(d2,lit (.bool true))::(d1,.pv (.slice es))::s.tm,s.ms⟩)
  (hF:Q .normal ⟨(d2,lit (.bool false))::(d1,.pv (.slice es))::s.tm,s.ms⟩):T P n nb (.region id ops false) s Q:=by
 intro G a w R I hn hK
 simp only[jA,zj] at hda
 have hda1:=hda.1
 rw[hops] at hda1
 simp only[List.all_cons,List.all_nil,Bool.and_true,zj] at hda1
 obtain⟨hd1,hd2⟩:=hda1
 have hsz:ops.size=2:=by rw[<-qj,hops];rfl
 have hi0:ops[0]? =some ⟨some d1,.move x,ty1,p1,af1,none⟩:=by rw[<-qi,hops];rfl
 have hi1:ops[1]? =some ⟨some d2,.binOp .eql t (.tmp d1) (.const (.slice none 0 0)) u,ty2,p2,af2,none⟩:=by rw[<-qi,hops];rfl
 have hX:=kI I x
 rw[hx] at hX
 have hX0:=hX
 simp only[qx,qN] at hX
 obtain⟨ad,cap,hv,hcap,hel⟩:=hX
 refine wpIn_region ?_
 rw[hsz,show List.range 2=[0,1] from rfl]
 simp only[wpOpsIn,hi0]
 rw[if_pos (show Region.wanted (⟨some d1,.move x,ty1,p1,af1,none⟩:Oper) (yielded ops a.tmps)=true from rfl)]
 refine wpR_of ?_ ao _
 have ex0:(execOp a.eval ⟨some d1,.move x,ty1,p1,af1,none⟩).run P w=.ok (.value (a.eval x)) w:=by simp only[execOp,qu]
 unfold Oper.wp
 rw[ex0]
 show wpOpsIn fcF 0 P ops R [1] (a.put (some d1) (a.eval x)) w
 obtain⟨I1,Sn1⟩:=I.eff (K:=nb) (qH I.ctxS (val:=.pv (.slice es)) (r:=a.eval x) hX0 (fun k hk=>by simp[DV.refs] at hk)) (some d1) (dstOk_lt hd1 hn)
 simp only[wpOpsIn,hi1]
 rw[if_pos (show Region.wanted (⟨some d2,.binOp .eql t (.tmp d1) (.const (.slice none 0 0)) u,ty2,p2,af2,none⟩:Oper) (yielded ops (a.put (some d1) (a.eval x)).tmps)=true from rfl)]
 refine wpR_of ?_ ao _
 have hlt:d1<a.tmps.size:=dstOk_lt hd1 hn d1 rfl
 have hev:(a.put (some d1) (a.eval x)).eval (.tmp d1)=a.eval x:=by
  show (a.put (some d1) (a.eval x)).tmps.getD d1 undef=_
  rw[Act.put_getD];simp[hlt]
 have hnil:(a.put (some d1) (a.eval x)).eval (.const (.slice none 0 0))=.slice none 0 0:=rfl
 have hq:=run_equal_slice_nil (P:=P) w t e ad es.length cap (qM.und P und)
 have ex1:(execOp (a.put (some d1) (a.eval x)).eval ⟨some d2,.binOp .eql t (.tmp d1) (.const (.slice none 0 0)) u,ty2,p2,af2,none⟩).run P w=.ok (.value (.bool ad.isNone)) w:=by
  simp only[execOp,hev.trans hv,hnil,eqGuard_at_slice,binOp,qt,qu,qr,hq]
 unfold Oper.wp
 rw[ex1]
 show wpOpsIn fcF 0 P ops R [] ((a.put (some d1) (a.eval x)).put (some d2) (.bool ad.isNone)) w
 obtain⟨I2,Sn2⟩:=I1.eff (K:=nb) (qH I1.ctxS (val:=lit (.bool ad.isNone)) (r:=.bool ad.isNone) (qL rfl) (fun k hk=>by simp[DV.refs,lit] at hk)) (some d2) (dstOk_lt hd2 aU)
 have hsz2:((a.put (some d1) (a.eval x)).put (some d2) (.bool ad.isNone)).tmps.size=n:=by rw[Act.kC,Act.kC];exact hn
 have hdf:((a.put (some d1) (a.eval x)).put (some d2) (.bool ad.isNone)).defers=a.defers:=rfl
 cases had:ad with
 | none=>
  have hes:es=[]:=by
   rcases hel with e|⟨b,off,esz,e,_⟩
   ·exact e
   rw[had] at e;cases e
  rw[had] at I2 Sn2 hsz2
  exact hK _ _ _ _ _ (hT hes) I2 (Sn1.trans Sn2) hsz2 (Mks.of Z)
 | some b=>
  rw[had] at I2 Sn2 hsz2
  exact hK _ _ _ _ _ hF I2 (Sn1.trans Sn2) hsz2 (Mks.of Z)
theorem TK.nilM [Fc] {id d1 d2:Nat} {x:Operand} {t u ty1 ty2 e:TypeId} {p1 p2:String} {af1 af2:Array Edge} {es:List (List PV)}
  (hops:ops.toList=[⟨some d1,.move x,ty1,p1,af1,none⟩,⟨some d2,.binOp .eql t (.tmp d1) (.const (.slice none 0 0)) u,ty2,p2,af2,none⟩]) (hda:jA n (.region id ops false)=true)
  (hx:ev1 s x=.pv (.slice es)) (und:Y.underlying t=some (.slice e))
  (hT:es=[]->PK P n nb Q K .normal ⟨(d2,lit (.bool true))::(d1,.pv (.slice es))::s.tm,s.ms⟩)
  (hF:PK P n nb Q K .normal ⟨(d2,lit (.bool false))::(d1,.pv (.slice es))::s.tm,s.ms⟩):TK P n nb Q (.region id ops false) K s:=T.nilM (Y:=Y) hops hda hx und hT hF
end
end Go.Lens
end
section
namespace Go.Lens
variable [Lz]
section
variable {P:Program} {Y:Tab} [qM P Y] {nb:Nat} {s:St} {dst:Option Tmp} {ty u:TypeId} {pos:String} {af:Array Edge} {gd:Option (Nat×Bool)} {t:TypeId} {x y:Operand}
theorem allLt {l:List (Nat×MO)} {n:Nat} (h:l.all (fun p=>Nat.blt p.1 n)=true):∀ h o,qw l h=some o->h<n:=fun k o e=>by
 have:=zr.1 h _ (jt e);simpa using this
theorem allNe {l:List (Nat×MO)} {n:Nat} (h:l.all (fun p=>!Nat.beq p.1 n)=true):∀ p∈l,p.1≠n:=fun p hp e=>by
 have:=zr.1 h _ hp
 rw[e] at this;simp at this
noncomputable def ndM:List (Nat×MO)->Bool
 | []=>true
 | p::l=>!j8 l p.1&&ndM l
theorem ndM_ok:∀ {l:List (Nat×MO)},ndM l=true->∀ h o,(h,o)∈l->qw l h=some o
 | [],_,h,o,hm=>by cases hm
 | p::l,hd,h,o,hm=>by
  simp only[ndM,zj,Bool.not_eq_true'] at hd
  rw[qG]
  rcases zG.1 hm with e|e
  ·cases e;rw[if_pos rfl]
  have h2:=ndM_ok hd.2 h o e
  by_cases hq:p.1=h
  ·have:j8 l p.1=true:=ke.2 ⟨o,by rw[hq];exact h2⟩
   rw[hd.1] at this;cases this
  rw[if_neg hq];exact h2
def AgD (tm:List (Nat×DV)):Nat->List DV->Prop
 | _,[]=>True
 | k,.dead::ds=>AgD tm (k+1) ds
 | k,d::ds=>jx tm k=d/\AgD tm (k+1) ds
theorem agD_ok {tm:List (Nat×DV)}:∀ {ds:List DV} {k:Nat},AgD tm k ds->∀ i,ds.getD i .dead=jx tm (k+i)\/ds.getD i .dead=.dead
 | [],k,_,i=>.inr ao
 | d::ds,k,h,i=>by
  have hc:(d=.dead\/jx tm k=d)/\AgD tm (k+1) ds:=by
   cases d<;>first|exact⟨.inl Z,h⟩|exact⟨.inr h.1,h.2⟩
  cases i with
  | zero=>
   rcases hc.1 with e|e
   ·exact .inr (by simpa using e)
   exact .inl (by simpa using e.symm)
  | succ i=>
   have:=agD_ok hc.2 i
   rw[show k+(i+1)=k+1+i by omega]
   simpa using this
end
def rfOf:Code->Option (Array Tmp×Code×Code)
 | .seq a b=>match rfOf a with
  | some r=>some r
  | none=>rfOf b
 | .block _ a=>rfOf a
 | .rangeFunc _ ps a b=>some (ps,a,b)
 | _=>none
end Go.Lens
namespace Go.Lens
variable [Lz]
theorem Stepped.perm {G:Gh} {w:World} {look:Nat->Option MO} {val:DV} {ms ms':List (Nat×MO)} {G':Gh} {w':World} {r:Value} (h:ms'.Perm ms) (S:Stepped G w look val ms G' w' r):Stepped G w look val ms' G' w' r:=by
 have hn:∀ k,k∈ms'.map (·.1)↔k∈ms.map (·.1):=fun k=>(h.map _).mem_iff
 exact⟨S.later,S.hval,fun k o hk=>S.hms k o (h.mem_iff.1 hk),S.keeps,fun k hk=>S.old k (fun e=>hk ((hn k).2 e)),S.fresh,fun b k hk=>(S.own b k hk).imp (fun e=>(hn k).2 e) id,fun k hk=>(S.refs k hk).imp (fun e=>(hn k).2 e) id,
  fun k o hk j hj=>(S.refsM k o (h.mem_iff.1 hk) j hj).imp (fun e=>(hn j).2 e) id,S.newb,S.r0,S.r0m⟩
theorem qD.rev {P:Program} {f:FuncId} {ds:List DV} {look:Nat->Option MO} {val:DV} {l:List (Nat×MO)} (h:qD P f ds look val l.reverse):qD P f ds look val l:=
 ⟨h.refs,fun G w vs M hv=>(h.call G w vs M hv).mono fun r w' ⟨G',S⟩=>⟨G',S.perm (List.reverse_perm l).symm⟩⟩
theorem agD0 {tm:List (Nat×DV)} {ds:List DV} (h:AgD tm 0 ds) (i:Nat):ds.getD i .dead=jx tm i\/ds.getD i .dead=.dead:=by
 have:=agD_ok h i
 rwa [Nat.zero_add] at this
end Go.Lens
end
section
namespace Go.Lens
variable [Lz]
theorem wrap_u64 (n:Int):IntKind.wrap .u64 n=n%18446744073709551616:=by
 have hb:IntKind.u64.bits=64:=rfl
 have hs:IntKind.u64.signed=false:=rfl
 unfold IntKind.wrap
 simp only[hb,hs,Bool.false_and,qo,qq];rfl
def wr64 (n:Int):Int:=if 9223372036854775808<=n%18446744073709551616 then n%18446744073709551616-18446744073709551616 else n%18446744073709551616
theorem wrap_i64 (n:Int):IntKind.wrap .i64 n=wr64 n:=by
 have hb:IntKind.i64.bits=64:=rfl
 have hs:IntKind.i64.signed=true:=rfl
 unfold IntKind.wrap wr64
 simp only[hb,hs,Bool.true_and,zf];rfl
section
variable {P:Program} {Y:Tab} [qM P Y] {nb:Nat} {s:St} {dst:Option Tmp} {ty u:TypeId} {pos:String} {af:Array Edge} {gd:Option (Nat×Bool)} {t:TypeId} {x y z:Operand} {a b:Int}
theorem B.addU (hx:ev1 s x=lit (.int .u64 a)) (hy:ev1 s y=lit (.int .u64 b)):Body P Y nb s ⟨dst,.binOp .add t x y u,ty,pos,af,gd⟩ (lit (.int .u64 ((a+b)%18446744073709551616))) [] []:=by
 refine B.bin hx hy ?_
 show qE (some (true,lit (.int .u64 (IntKind.wrap .u64 (a+b)))))=_
 rw[wrap_u64];rfl
theorem B.mulU (hx:ev1 s x=lit (.int .u64 a)) (hy:ev1 s y=lit (.int .u64 b)):Body P Y nb s ⟨dst,.binOp .mul t x y u,ty,pos,af,gd⟩ (lit (.int .u64 ((a*b)%18446744073709551616))) [] []:=by
 refine B.bin hx hy ?_
 show qE (some (true,lit (.int .u64 (IntKind.wrap .u64 (a*b)))))=_
 rw[wrap_u64];rfl
theorem B.addV (hx:ev1 s x=lit (.int .u64 a)) (hy:ev1 s y=lit (.int .u64 b)) (h:0<=a+b/\a+b<18446744073709551616):Body P Y nb s ⟨dst,.binOp .add t x y u,ty,pos,af,gd⟩ (lit (.int .u64 (a+b))) [] []:=by
 have:=B.addU (P:=P) (Y:=Y) (nb:=nb) (dst:=dst) (ty:=ty) (u:=u) (pos:=pos) (af:=af) (gd:=gd) (t:=t) hx hy
 rwa [Int.emod_eq_of_lt h.1 h.2] at this
theorem B.mulV (hx:ev1 s x=lit (.int .u64 a)) (hy:ev1 s y=lit (.int .u64 b)) (h:0<=a*b/\a*b<18446744073709551616):Body P Y nb s ⟨dst,.binOp .mul t x y u,ty,pos,af,gd⟩ (lit (.int .u64 (a*b))) [] []:=by
 have:=B.mulU (P:=P) (Y:=Y) (nb:=nb) (dst:=dst) (ty:=ty) (u:=u) (pos:=pos) (af:=af) (gd:=gd) (t:=t) hx hy
 rwa [Int.emod_eq_of_lt h.1 h.2] at this
theorem B.shrU {k:IntKind} {K:Int} (hx:ev1 s x=lit (.int .u64 a)) (hy:ev1 s y=lit (.int k b)) (hb:0<=b) (hK:(2:Int) ^ (Min.min b.toNat 64)=K):Body P Y nb s ⟨dst,.binOp .shr t x y u,ty,pos,af,gd⟩ (lit (.int .u64 (a / K))) [] []:=by
 refine B.bin hx hy ?_
 show qE (some (decide (0<=b),lit (.int .u64 (a.fdiv (2 ^ (Min.min b.toNat 64))))))=_
 rw[zl hb,hK,Int.fdiv_eq_ediv_of_nonneg _ (by rw[<-hK];exact Int.le_of_lt (Int.pow_pos ah))];rfl
theorem u64_nat {a:Int} (h:0<=a/\a<18446744073709551616):∃ n:Nat,a=(n:Int)/\n<2 ^ 64:=⟨a.toNat,aa,aa⟩
theorem bv_nat {n:Nat} (h:n<2 ^ 64):(BitVec.ofInt 64 (n:Int)).toNat=n:=by
 rw[BitVec.toNat_ofInt]
 have e:((n:Int)%((2 ^ 64:Nat):Int)).toNat=n:=by
  rw[Int.emod_eq_of_lt aa aa];rfl
 exact e
theorem B.andM (k:Nat) (hx:ev1 s x=lit (.int .u64 a)) (hy:ev1 s y=lit (.int .u64 b)) (h:0<=a/\a<18446744073709551616) (hk:k<=64) (hb:b=((2 ^ k-1:Nat):Int)):Body P Y nb s ⟨dst,.binOp .and t x y u,ty,pos,af,gd⟩ (lit (.int .u64 (a%((2 ^ k:Nat):Int)))) [] []:=by
 refine B.bin hx hy ?_
 show qE (some (true,lit (.int .u64 (IntKind.wrap .u64 ((BitVec.ofInt 64 a &&&BitVec.ofInt 64 b).toNat:Nat)))))=_
 obtain⟨n,rfl,hn⟩:=u64_nat h
 have hlt:2 ^ k-1<2 ^ 64:=by
  have:=Nat.pow_le_pow_right (show 0<2 by decide) hk
  have:=Nat.pow_pos (n:=k) (show 0<2 by decide)
  omega
 rw[hb,BitVec.toNat_and,bv_nat hn,bv_nat hlt,Nat.and_two_pow_sub_one_eq_mod,wrap_u64]
 have h1:n%2 ^ k<=n:=Nat.mod_le _ _
 rw[Int.emod_eq_of_lt aa aa]
 show some (lit (.int .u64 ((n%2 ^ k:Nat):Int)),_)=_
 rw[Int.natCast_emod]
theorem B.orV (k:Nat) {c:Int} (hx:ev1 s x=lit (.int .u64 a)) (hy:ev1 s y=lit (.int .u64 b)) (ha:a=c*((2 ^ k:Nat):Int)) (hc:0<=c) (hb:0<=b/\b<((2 ^ k:Nat):Int)) (h:a+b<18446744073709551616):Body P Y nb s ⟨dst,.binOp .or t x y u,ty,pos,af,gd⟩ (lit (.int .u64 (a+b))) [] []:=by
 refine B.bin hx hy ?_
 show qE (some (true,lit (.int .u64 (IntKind.wrap .u64 ((BitVec.ofInt 64 a |||BitVec.ofInt 64 b).toNat:Nat)))))=_
 obtain⟨n,rfl⟩:∃ n:Nat,c=(n:Int):=⟨c.toNat,aa⟩
 obtain⟨m,rfl⟩:∃ m:Nat,b=(m:Int):=⟨b.toNat,aa⟩
 have hm:m<2 ^ k:=aa
 have ha':a=((n*2 ^ k:Nat):Int):=by rw[ha];push_cast;rfl
 subst ha'
 have hs:n*2 ^ k+m<2 ^ 64:=aa
 rw[BitVec.toNat_or,bv_nat aa,bv_nat aa,wrap_u64]
 have e:n*2 ^ k |||m=n*2 ^ k+m:=by
  rw[Nat.mul_comm,<-Nat.two_pow_add_eq_or_of_lt hm]
 rw[e,Int.emod_eq_of_lt aa aa]
 show some (lit (.int .u64 ((n*2 ^ k+m:Nat):Int)),_)=_
 rw[Int.natCast_add]
theorem B.toU {k:IntKind} {t':TypeId} {d:TypeDesc} (hx:ev1 s x=lit (.int k a)) (hu:Y.underlying t=some d) (hu':Y.underlying t'=some (.int .u64)) (hs:s2bV Y t t' (lit (.int k a))=none) :
  Body P Y nb s ⟨dst,.convert t t' x,ty,pos,af,gd⟩ (lit (.int .u64 (a%18446744073709551616))) [] []:=by
 refine B.pure (lo:=0) (nm:=0) (kl P) ?_ ?_
 ·intro z hz
  have:z=x:=by simpa [Op.operands] using hz
  rw[this,hx];rfl
 have e1:evU (tmpsOf [x]) s x=_:=(qW ao).trans hx
 show (match s2bV Y t t' (evU (tmpsOf [x]) s x) with|some ⟨true,v,m⟩=>some (v,m)|some _=>none|none=>qE (convW Y t t' (qw []) (evU (tmpsOf [x]) s x)))=_
 rw[e1,hs]
 show qE (convQ Y t t' (lit (.int k a)))=_
 unfold convQ lit
 rw[hu,hu']
 show qE (some (true,lit (.int .u64 (IntKind.wrap .u64 a))))=_
 rw[wrap_u64];rfl
theorem B.negW (hx:ev1 s x=lit (.int .i64 a)):Body P Y nb s ⟨dst,.unOp .neg t x,ty,pos,af,gd⟩ (lit (.int .i64 (wr64 (0-a)))) [] []:=by
 refine .inr (km.of fun σ G a' w hv hl I=>?_)
 have hX:=hv x aY
 rw[hx] at hX
 have eX:=(qA hX).1
 refine⟨.int .i64 (wr64 (0-a)),w,G,.inl ?_,qH I.ctxS (qL Z) (fun k hk=>by simp[lit,DV.refs] at hk)⟩
 rw[<-wrap_i64]
 simp only[execOp,qt,qu,qr,eX]
 simp[Op.unary,Op.intArith]
theorem B.slW {α:Type} {enc:α->List PV} {l:List α} {lo hi:Operand} {h v sz i j:Nat} {k k2:IntKind} {n m:Int} {e T:TypeId} (hx:ev1 s x=.aref h v) (hm:qw s.ms h=some (.arr v sz T (l.map enc))) (hlo:ev1 s lo=lit (.int k n)) (hhi:ev1 s hi=lit (.int k2 m)) (und:Y.underlying t=some (.slice e)) (hs:szT Y e=some sz)
  (hn:n=(i:Int)) (hmm:m=(j:Int)) (hij:i<j) (hj:j<=l.length):Body P Y nb s ⟨dst,.slice t x (some lo) (some hi) none,ty,pos,af,gd⟩ (.awin h v i (j-i)) [] [h]:=by
 refine .inr (km.of fun σ G a w hv hl I=>?_)
 have hX:=hv x aY
 have hY:=hv lo aY
 have hZ:=hv hi aY
 rw[hx] at hX;rw[hlo] at hY;rw[hhi] at hZ
 have hlk:qw σ.ms h=some (.arr v sz T (l.map enc)):=by rw[hl h (.inl ao)];exact hm
 have hq:kn Y t (qw σ.ms) (.aref h v) (some (lit (.int k n))) (some (lit (.int k2 m))) none=some (true,.awin h v i (j-i)):=by
  unfold kn lit
  subst hn hmm
  have:decide ((0:Int)<=(i:Int)/\(i:Int)<(j:Int)/\(j:Int)<=((l.map enc).length:Int))=true:=zl ⟨aa,aa,by rw[zJ];omega⟩
  simp only[und,bound,hs,hlk,and_self,qp,this,zU]
 obtain⟨r,h1,h2⟩:=sliceW_sound (P:=P) I.ctxS.sees hq hX (vlo:=some (a.eval lo)) (vhi:=some (a.eval hi)) (vmx:=none) hY hZ trivial
 refine⟨r,w,G,.inl ?_,qH I.ctxS h2 (fun k hk=>?_)⟩
 ·simp only[execOp,Option.map_none,qf,qt,h1,qr,qu]
 simp only[DV.refs,zg] at hk;subst hk;exact⟨_,hlk⟩
end
end Go.Lens
end
section
namespace Go.Lens.Un
def val (β:Nat):List Nat->Nat
 | []=>0
 | x::l=>x+β*val β l
theorem val_one (β x:Nat):val β [x]=x:=by simp[val]
def Dg (β:Nat) (l:List Nat):Prop:=∀ x∈l,x<β
theorem Dg.tail {β x:Nat} {l:List Nat} (h:Dg β (x::l)):Dg β l:=fun y hy=>h y (zO _ hy)
theorem Dg.head {β x:Nat} {l:List Nat} (h:Dg β (x::l)):x<β:=h x (ql ..)
theorem Dg.take {β:Nat} {l:List Nat} (h:Dg β l) (k:Nat):Dg β (l.take k):=fun y hy=>h y (zx hy)
theorem Dg.drop {β:Nat} {l:List Nat} (h:Dg β l) (k:Nat):Dg β (l.drop k):=fun y hy=>h y (zy hy)
theorem Dg.app {β:Nat} {a b:List Nat} (h:Dg β a) (g:Dg β b):Dg β (a++b):=fun y hy=>(zI.1 hy).elim (h y) (g y)
theorem Dg.set {β:Nat} {l:List Nat} (h:Dg β l) {k x:Nat} (hx:x<β):Dg β (l.set k x):=fun y hy=>by
 rcases List.mem_or_eq_of_mem_set hy with hy|rfl
 ·exact h y hy
 exact hx
theorem Dg.get {β:Nat} (hβ:0<β) {l:List Nat} (h:Dg β l) (k:Nat):l.getD k 0<β:=by
 rw[ze]
 by_cases hk:k<l.length
 ·rw[zm hk];exact h _ (List.getElem_mem hk)
 rw[qg aa];exact hβ
theorem dg_nil (β:Nat):Dg β []:=fun x hx=>by cases hx
theorem val_lt {β:Nat}:∀ {l:List Nat},Dg β l->val β l<β ^ l.length
 | [],_=>by simp[val]
 | x::l,h=>by
  have h1:=val_lt h.tail
  have h2:=h.head
  rw[val,zb,Nat.pow_succ]
  have h3:β*(val β l+1)<=β*β ^ l.length:=Nat.mul_le_mul_left β h1
  grind
def Nz (l:List Nat):Prop:=∀ x,l.getLast? =some x->x≠0
theorem nz_nil:Nz []:=fun x h=>by cases h
theorem Nz.tail {x:Nat} {l:List Nat} (h:Nz (x::l)):Nz l:=fun y hy=>by
 cases l with
 | nil=>cases hy
 | cons z l=>exact h y (by rw[List.getLast?_cons_cons];exact hy)
theorem nz_pos {β:Nat} (hβ:2<=β):∀ {l:List Nat},Nz l->l≠[]->β ^ (l.length-1)<=val β l
 | [],_,h=>absurd Z h
 | [x],h,_=>by
  have:=h x rfl
  rw[val_one]
  show β ^ 0<=x
  rw[Nat.pow_zero];omega
 | x::y::l,h,_=>by
  have ih:=nz_pos hβ h.tail ao
  rw[val]
  show β ^ (l.length+1)<=_
  have e:(y::l).length-1=l.length:=rfl
  rw[e] at ih
  have:=Nat.mul_le_mul_left β ih
  rw[Nat.pow_succ,Nat.mul_comm]
  omega
def dig (β n:Nat):List Nat:=if h:n=0\/β<2 then [] else n%β::dig β (n / β)
termination_by n
decreasing_by
 have h1:¬n=0:=fun e=>h (.inl e)
 have h2:¬β<2:=fun e=>h (.inr e)
 exact Nat.div_lt_self aa aa
theorem dig_zero (β:Nat):dig β 0=[]:=by rw[dig,dif_pos (.inl rfl)]
theorem dig_pos {β n:Nat} (hβ:2<=β) (hn:n≠0):dig β n=n%β::dig β (n / β):=by rw[dig,dif_neg aa]
theorem val_dig {β:Nat} (hβ:2<=β) (n:Nat):val β (dig β n)=n:=by
 induction n using Nat.strongRecOn with
 | _ n ih=>
  by_cases hn:n=0
  ·subst hn;rw[dig_zero];rfl
  rw[dig_pos hβ hn,val,ih (n / β) (Nat.div_lt_self aa aa)]
  exact Nat.mod_add_div n β
theorem dg_dig {β:Nat} (hβ:2<=β) (n:Nat):Dg β (dig β n):=by
 induction n using Nat.strongRecOn with
 | _ n ih=>
  by_cases hn:n=0
  ·subst hn;rw[dig_zero];exact dg_nil β
  rw[dig_pos hβ hn]
  intro x hx
  rcases zG.1 hx with rfl|hx
  ·exact Nat.mod_lt _ aa
  exact ih (n / β) (Nat.div_lt_self aa aa) x hx
theorem dig_nil {β n:Nat} (hβ:2<=β) (h:dig β n=[]):n=0:=by
 have:=val_dig hβ n
 rw[h] at this
 exact this.symm
theorem nz_dig {β:Nat} (hβ:2<=β) (n:Nat):Nz (dig β n):=by
 induction n using Nat.strongRecOn with
 | _ n ih=>
  by_cases hn:n=0
  ·subst hn;rw[dig_zero];exact nz_nil
  rw[dig_pos hβ hn]
  by_cases h2:n / β=0
  ·rw[h2,dig_zero]
   intro x hx
   cases hx
   have:n<β:=by
    rcases Nat.lt_or_ge n β with h|h
    ·exact h
    have:=Nat.div_pos h aa;omega
   rw[Nat.mod_eq_of_lt this];exact hn
  have h3:dig β (n / β)≠[]:=fun e=>h2 (dig_nil hβ e)
  intro x hx
  obtain⟨y,l,e⟩:=List.exists_cons_of_ne_nil h3
  rw[e,List.getLast?_cons_cons,<-e] at hx
  exact ih (n / β) (Nat.div_lt_self aa aa) x hx
theorem dig_len_le {β:Nat} (hβ:2<=β) {n k:Nat} (h:n<β ^ k):(dig β n).length<=k:=by
 rcases Nat.lt_or_ge k (dig β n).length with hk|hk
 ·have h1:=nz_pos hβ (nz_dig hβ n) (fun e=>by rw[e] at hk;simp at hk)
  rw[val_dig hβ] at h1
  have h2:β ^ k<=β ^ ((dig β n).length-1):=Nat.pow_le_pow_right aa aa
  omega
 exact hk
theorem dig_len {β:Nat} (hβ:2<=β) (n:Nat):n<β ^ (dig β n).length:=by
 have:=val_lt (dg_dig hβ n)
 rwa [val_dig hβ] at this
theorem dig_small {β n:Nat} (hβ:2<=β) (h0:n≠0) (h:n<β):dig β n=[n]:=by
 rw[dig_pos hβ h0,Nat.mod_eq_of_lt h,Nat.div_eq_of_lt h,dig_zero]
def G2 (v1 top Q q r:Nat):Prop:=q*v1+r=top/\Q<=q
def jk (n:Nat):Nat:=if n=0 then 0 else n.log2+1
theorem blen_lt (n:Nat):n<2 ^ jk n:=by
 unfold jk
 split
 ·rename_i h;rw[h];decide
 exact Nat.lt_log2_self
theorem blen_le {n:Nat} (h:n≠0):2 ^ (jk n-1)<=n:=by
 unfold jk
 rw[if_neg h,Nat.add_sub_cancel]
 exact Nat.log2_self_le h
theorem blen_unique {n k:Nat} (h1:2 ^ k<=n) (h2:n<2 ^ (k+1)):jk n=k+1:=by
 have h0:n≠0:=by
  have:=Nat.pow_pos (n:=k) (show 0<2 by decide)
  omega
 have a:=blen_lt n
 have b:=blen_le h0
 have c:k<jk n:=by
  rcases Nat.lt_or_ge k (jk n) with g|g
  ·exact g
  have:=Nat.pow_le_pow_right (show 0<2 by decide) g
  omega
 have d:jk n-1<k+1:=by
  rcases Nat.lt_or_ge (jk n-1) (k+1) with g|g
  ·exact g
  have:=Nat.pow_le_pow_right (show 0<2 by decide) g
  omega
 omega
theorem blen_shift {n k:Nat} (h:2 ^ k<=n):jk n=k+jk (n / 2 ^ k):=by
 have hp:=Nat.pow_pos (n:=k) (show 0<2 by decide)
 have h0:n / 2 ^ k≠0:=by have:=Nat.div_pos h hp;omega
 have a:=blen_lt (n / 2 ^ k)
 have b:=blen_le h0
 have hb:jk (n / 2 ^ k)≠0:=by unfold jk;rw[if_neg h0];omega
 have e:k+jk (n / 2 ^ k)=(k+(jk (n / 2 ^ k)-1))+1:=aa
 rw[e]
 refine blen_unique ?_ ?_
 ·rw[Nat.pow_add]
  have:=(Nat.le_div_iff_mul_le hp).1 b
  rw[Nat.mul_comm];exact this
 have:=(Nat.div_lt_iff_lt_mul hp).1 a
 rw[<-e,Nat.pow_add,Nat.mul_comm];exact this
end Go.Lens.Un
end
section
namespace Go.Lens
variable [Lz]
abbrev vU (n:Nat):DV:=.pv (.lit (.int .u64 (n:Int)))
abbrev eU (n:Nat):List PV:=[.lit (.int .u64 (n:Int))]
abbrev B64:Nat:=18446744073709551616
section
variable {P:Program} {Y:Tab} [qM P Y] {nb:Nat} {s:St} {dst:Option Tmp} {ty u:TypeId} {pos:String} {af:Array Edge} {gd:Option (Nat×Bool)} {t:TypeId} {x y z:Operand} {a b:Nat}
theorem B.addN (hx:ev1 s x=vU a) (hy:ev1 s y=vU b) (h:a+b<B64):Body P Y nb s ⟨dst,.binOp .add t x y u,ty,pos,af,gd⟩ (vU (a+b)) [] []:=by
 have:=B.addV (P:=P) (Y:=Y) (nb:=nb) (dst:=dst) (ty:=ty) (u:=u) (pos:=pos) (af:=af) (gd:=gd) (t:=t) hx hy ⟨aa,by unfold B64 at h;omega⟩
 exact this
theorem B.mulN (hx:ev1 s x=vU a) (hy:ev1 s y=vU b) (h:a*b<B64):Body P Y nb s ⟨dst,.binOp .mul t x y u,ty,pos,af,gd⟩ (vU (a*b)) [] []:=by
 have:=B.mulV (P:=P) (Y:=Y) (nb:=nb) (dst:=dst) (ty:=ty) (u:=u) (pos:=pos) (af:=af) (gd:=gd) (t:=t) hx hy ⟨by rw[<-Int.natCast_mul];omega,by rw[<-Int.natCast_mul];unfold B64 at h;omega⟩
 rw[<-Int.natCast_mul] at this
 exact this
theorem B.mulM (hx:ev1 s x=vU a) (hy:ev1 s y=vU b):Body P Y nb s ⟨dst,.binOp .mul t x y u,ty,pos,af,gd⟩ (vU (a*b%B64)) [] []:=by
 have:=B.mulU (P:=P) (Y:=Y) (nb:=nb) (dst:=dst) (ty:=ty) (u:=u) (pos:=pos) (af:=af) (gd:=gd) (t:=t) hx hy
 rw[<-Int.natCast_mul] at this
 exact this
theorem pow_min {b K:Nat} (h:b<=64) (hK:2 ^ b=K):(2:Int) ^ (Min.min ((b:Nat):Int).toNat 64)=((K:Nat):Int):=by
 rw[zU,Nat.min_eq_left h,<-hK,Int.natCast_pow];rfl
theorem B.shrM {K:Nat} (hx:ev1 s x=vU a) (hy:ev1 s y=vU b) (hb:b<=64) (hK:2 ^ b=K):Body P Y nb s ⟨dst,.binOp .shr t x y u,ty,pos,af,gd⟩ (vU (a / K)) [] []:=by
 have:=B.shrU (P:=P) (Y:=Y) (nb:=nb) (dst:=dst) (ty:=ty) (u:=u) (pos:=pos) (af:=af) (gd:=gd) (t:=t) hx hy aa (pow_min hb hK)
 rw[<-Int.natCast_ediv] at this
 exact this
theorem B.andK (k K:Nat) (hx:ev1 s x=vU a) (hy:ev1 s y=vU b) (h:a<B64) (hk:k<=64) (hb:b=2 ^ k-1) (hK:2 ^ k=K):Body P Y nb s ⟨dst,.binOp .and t x y u,ty,pos,af,gd⟩ (vU (a%K)) [] []:=by
 have:=B.andM (P:=P) (Y:=Y) (nb:=nb) (dst:=dst) (ty:=ty) (u:=u) (pos:=pos) (af:=af) (gd:=gd) (t:=t) k hx hy ⟨aa,by unfold B64 at h;omega⟩ hk (by rw[hb])
 rw[<-Int.natCast_emod,hK] at this
 exact this
theorem B.orN (k:Nat) {c K:Nat} (hx:ev1 s x=vU a) (hy:ev1 s y=vU b) (hK:2 ^ k=K) (ha:a=c*K) (hb:b<K) (h:a+b<B64):Body P Y nb s ⟨dst,.binOp .or t x y u,ty,pos,af,gd⟩ (vU (a+b)) [] []:=by
 have:=B.orV (P:=P) (Y:=Y) (nb:=nb) (dst:=dst) (ty:=ty) (u:=u) (pos:=pos) (af:=af) (gd:=gd) (t:=t) k (c:=((c:Nat):Int)) hx hy (by rw[hK,ha,Int.natCast_mul]) aa ⟨aa,by rw[hK];omega⟩ (by unfold B64 at h;omega)
 exact this
theorem B.toUN {k:IntKind} {m:Int} {n:Nat} {t':TypeId} {d:TypeDesc} (hx:ev1 s x=lit (.int k m)) (hu:Y.underlying t=some d) (hu':Y.underlying t'=some (.int .u64)) (h:m%18446744073709551616=(n:Int)) (hs:s2bV Y t t' (lit (.int k m))=none) :
  Body P Y nb s ⟨dst,.convert t t' x,ty,pos,af,gd⟩ (vU n) [] []:=by
 have:=B.toU (P:=P) (Y:=Y) (nb:=nb) (dst:=dst) (ty:=ty) (pos:=pos) (af:=af) (gd:=gd) (t:=t) hx hu hu' hs
 rwa [h] at this
theorem B.toBN {k:IntKind} {m:Int} {t':TypeId} {d:TypeDesc} (hx:ev1 s x=lit (.int k m)) (hu:Y.underlying t=some d) (hu':Y.underlying t'=some (.int .u8)) (h:0<=m/\m<256) (hs:s2bV Y t t' (lit (.int k m))=none) :
  Body P Y nb s ⟨dst,.convert t t' x,ty,pos,af,gd⟩ (lit (.int .u8 m)) [] []:=by
 refine B.pure (lo:=0) (nm:=0) (kl P) ?_ ?_
 ·intro z hz
  have:z=x:=by simpa [Op.operands] using hz
  rw[this,hx];rfl
 have e1:evU (tmpsOf [x]) s x=_:=(qW ao).trans hx
 show (match s2bV Y t t' (evU (tmpsOf [x]) s x) with|some ⟨true,v,m⟩=>some (v,m)|some _=>none|none=>qE (convW Y t t' (qw []) (evU (tmpsOf [x]) s x)))=_
 rw[e1,hs]
 show qE (convQ Y t t' (lit (.int k m)))=_
 unfold convQ lit
 rw[hu,hu']
 show qE (some (true,lit (.int .u8 (IntKind.wrap .u8 m))))=_
 rw[wrap_u8 h.1 h.2];rfl
end
section
variable {P:Program} {Y:Tab} [qM P Y] {nb:Nat} {s:St} {dst:Option Tmp} {ty u:TypeId} {pos:String} {af:Array Edge} {gd:Option (Nat×Bool)} {t:TypeId} {x y z:Operand}
theorem B.slV {α:Type} {enc:α->List PV} {l:List α} {lo hi:Operand} {h v sz i c:Nat} {k k2:IntKind} {n m:Int} {e T:TypeId} (hx:ev1 s x=.aref h v) (hm:qw s.ms h=some (.arr v sz T (l.map enc))) (hlo:ev1 s lo=lit (.int k n)) (hhi:ev1 s hi=lit (.int k2 m)) (und:Y.underlying t=some (.slice e)) (hs:szT Y e=some sz)
  (hn:n=(i:Int)) (hmm:m=((i+c:Nat):Int)) (hc:0<c) (hj:i+c<=l.length):Body P Y nb s ⟨dst,.slice t x (some lo) (some hi) none,ty,pos,af,gd⟩ (.awin h v i c) [] [h]:=by
 have:=B.slW (P:=P) (Y:=Y) (nb:=nb) (dst:=dst) (ty:=ty) (pos:=pos) (af:=af) (gd:=gd) hx hm hlo hhi und hs hn hmm aa hj
 rwa [Nat.add_sub_cancel_left] at this
end
end Go.Lens
end
section
namespace Go.Lens.Un
abbrev NI:=Int×Bool
abbrev I63:Nat:=9223372036854775808
def madeI (z:Int):NI:=(z,decide (I63<=z.natAbs))
def madeN (s:Bool) (n:Nat):NI:=madeI (bif s then -(n:Int) else (n:Int))
def ofI (z:Int):NI:=(z,false)
def negI (x:NI):NI:=bif x.2 then madeI (-x.1) else if x.1= -9223372036854775808 then madeI (-x.1) else (-x.1,false)
def addI (x y:NI):NI:=bif x.2||y.2 then madeI (x.1+y.1) else if -9223372036854775808<=x.1+y.1/\x.1+y.1<=9223372036854775807 then (x.1+y.1,false) else madeI (x.1+y.1)
def subI (x y:NI):NI:=addI x (negI y)
def mulI (x y:NI):NI:=madeI (x.1*y.1)
def jz (z:Int):Int:=if z<0 then -1 else if z=0 then 0 else 1
def divI (x y:NI):NI:=bif x.2||y.2||decide (x.1= -9223372036854775808) then (bif decide (jz (madeN (decide (x.1<0)) (x.1.natAbs%y.1.natAbs)).1<0) then subI (madeN (decide (x.1<0)) (x.1.natAbs / y.1.natAbs)) (ofI 1) else madeN (decide (x.1<0)) (x.1.natAbs / y.1.natAbs)) else (x.1 / y.1,false)
def okI (x:NI):Prop:=if x.2 then I63<=x.1.natAbs else -9223372036854775808<=x.1/\x.1<=9223372036854775807
theorem madeI_1 (z:Int):(madeI z).1=z:=rfl
theorem madeI_ok (z:Int):okI (madeI z):=by
 unfold okI madeI
 by_cases h:I63<=z.natAbs
 ·rw[if_pos ai];exact h
 rw[if_neg ai];unfold I63 at h;simp only[];omega
theorem ofI_ok {z:Int} (h: -9223372036854775808<=z/\z<=9223372036854775807):okI (ofI z):=by
 unfold okI ofI
 rw[if_neg ao];exact h
theorem mulI_1 (x y:NI):(mulI x y).1=x.1*y.1:=rfl
theorem mulI_ok (x y:NI):okI (mulI x y):=madeI_ok _
end Go.Lens.Un
end
section
namespace Go.Lens
variable [Lz]
def dz:DV->Option PV
 | .nils=>some (.lit (.slice none 0 0))
 | .pv p=>some p
 | _=>none
def dzL:List DV->Option (List PV)
 | []=>some []
 | d::ds=>match dz d,dzL ds with
  | some p,some ps=>some (p::ps)
  | _,_=>none
theorem dz_ok {G:Gh} {R:Rd} {d:DV} {p:PV} {v:Value} (h:dz d=some p) (hv:qx G R d v):qN R p v:=by
 cases d with
 | nils=>
  cases h
  simp only[qx] at hv
  subst hv
  simp only[qN]
  exact⟨trivial,rfl⟩
 | pv q=>cases h;simpa only[qx] using hv
 | _=>cases h
theorem dzL_ok {G:Gh} {R:Rd}:∀ {ds:List DV} {ps:List PV} {vs:List Value},dzL ds=some ps->qC G R ds vs->qy R ps vs
 | [],ps,vs,h,hv=>by
  cases h
  simpa only[qC,qy] using hv
 | d::ds,ps,vs,h,hv=>by
  simp only[dzL] at h
  split at h
  ·rename_i p q h1 h2
   cases h
   simp only[qC] at hv
   obtain⟨v,vs',rfl,k1,k2⟩:=hv
   simp only[qy]
   exact⟨v,vs',rfl,dz_ok h1 k1,dzL_ok h2 k2⟩
  cases h
theorem Frz.aggZ (l:List (Nat×MO)) {ds:List DV} {ps:List PV} (hd:dzL ds=some ps):Frz l (.agg ds) [] (.pv (.agg ps)) []:=by
 intro G w G1 w1 r M S
 have hv:=S.hval
 simp only[qx] at hv
 obtain⟨vs,rfl,ho,hvs⟩:=hv
 refine⟨G1,{ S with hval:=?_,refs:=by simp[DV.refs] }⟩
 simp only[qx,qN]
 exact⟨vs,rfl,ho,dzL_ok hd hvs⟩
theorem Frz.jU (l:List (Nat×MO)) {h:Nat} {T:TypeId} {ds:List DV} {ps:List PV} (hd:dzL ds=some ps):Frz l (.bref h 0) [(h,.box T ds)] (.bref h 0) [(h,.box T (ps.map .pv))]:=by
 intro G w G1 w1 r M S
 have hb:=S.hms h _ (by simp:(h,MO.box T ds)∈[(h,MO.box T ds)])
 refine⟨G1,{ S with hms:=?_,old:=by simpa using S.old,own:=by simpa using S.own,refs:=by simpa using S.refs,refsM:=?_ }⟩
 ·intro k o hk
  simp only[zg,zz] at hk
  obtain⟨rfl,rfl⟩:=hk
  simp only[qY] at hb ⊢
  obtain⟨e1,b,c,e2,e3,e4,e5,e6⟩:=hb
  exact⟨e1,b,c,e2,e3,e4,e5,relDVs_pv (dzL_ok hd e6)⟩
 intro k o hk h' hh
 simp only[zg,zz] at hk
 obtain⟨rfl,rfl⟩:=hk
 simp only[MO.refs,refsL_pv] at hh
 cases hh
section
variable {P:Program} {Y:Tab} [qM P Y] {nb:Nat} {s:St} {dst:Option Tmp} {ty u:TypeId} {pos:String} {af:Array Edge} {gd:Option (Nat×Bool)} {t:TypeId} {x y z:Operand}
theorem B.bnB {p q:Bool} (hx:ev1 s x=lit (.bool p)) (hy:ev1 s y=lit (.bool q)) (und:Y.underlying t=some .bool):Body P Y nb s ⟨dst,.binOp .neq t x y u,ty,pos,af,gd⟩ (lit (.bool (!(p==q)))) [] []:=by
 refine B.bin hx hy ?_
 have h3:binQ Y .neq t (lit (.bool p)) (lit (.bool q))=some (true,lit (.bool (!(p==q)))):=by
  simp only[binQ,lit,und]
 show qE (binW Y .neq t (qw []) (kP y) (lit (.bool p)) (lit (.bool q)))=_
 have h4:binW Y .neq t (qw []) (kP y) (lit (.bool p)) (lit (.bool q))=some (true,lit (.bool (!(p==q)))):=by
  unfold binW
  simp only[lit] at h3 ⊢
  simp only[nilQ,nilKind,samePQ,h3]
 rw[h4];rfl
end
end Go.Lens
end
section
namespace Go.Lens.Tb
open Go.Proofs Go.Lens.Un
variable [Lz]
set_option maxRecDepth 100000
attribute [local irreducible] TK PK T RG EfR Body CG
theorem mulF (x y:Nat) (hx:x<B64) (hy:y<B64):x%4294967296*(y%4294967296)<B64/\x / 4294967296*(y%4294967296)+x%4294967296*(y%4294967296) / 4294967296<B64/\
  (x / 4294967296*(y%4294967296)+x%4294967296*(y%4294967296) / 4294967296)%4294967296+x%4294967296*(y / 4294967296)<B64/\
  x / 4294967296*(y / 4294967296)+(x / 4294967296*(y%4294967296)+x%4294967296*(y%4294967296) / 4294967296) / 4294967296+
      ((x / 4294967296*(y%4294967296)+x%4294967296*(y%4294967296) / 4294967296)%4294967296+x%4294967296*(y / 4294967296)) / 4294967296<B64/\
  x / 4294967296*(y / 4294967296)+(x / 4294967296*(y%4294967296)+x%4294967296*(y%4294967296) / 4294967296) / 4294967296+
      ((x / 4294967296*(y%4294967296)+x%4294967296*(y%4294967296) / 4294967296)%4294967296+x%4294967296*(y / 4294967296)) / 4294967296=x*y / B64:=by
 obtain⟨h1,h2,h3,h4⟩:=Lib.mul64_hi x y hx hy
 refine⟨h1,h2,h3,?_,h4⟩
 rw[h4]
 exact Nat.div_lt_of_lt_mul (Nat.mul_lt_mul'' hx hy)
theorem negU {n:Int} (hn:R64 n) (h:n<0):wr64 (0-n)%18446744073709551616=((n.natAbs:Nat):Int):=by
 unfold R64 at hn
 unfold wr64
 split<;>omega
theorem posU {n:Int} (hn:R64 n) (h:¬n<0):n%18446744073709551616=((n.natAbs:Nat):Int):=by
 unfold R64 at hn
 omega
theorem un3:tab.underlying 3=some (.int (.i64)):=ae
theorem un300:tab.underlying 300=some (.int (.u64)):=ae
theorem w253 (x y:Nat) (hx:x<B64) (hy:y<B64):qD Tryz.prog 253 [.pv (.lit (.int .u64 ((x:Nat):Int))),.pv (.lit (.int .u64 ((y:Nat):Int)))] (qw []) (.tup [.pv (.lit (.int .u64 (((x*y / B64):Nat):Int))),.pv (.lit (.int .u64 (((x*y%B64):Nat):Int)))]) []:=by
 refine cG qf253 Z (nB Z) Z ?_
 have hm:=mulF x y hx hy
 have h1:=hm.1
 have h2:=hm.2.1
 have h3:=hm.2.2.1
 have h4:=hm.2.2.2.1
 have h5:=hm.2.2.2.2
 refine E Z (B.andK 32 4294967296 (a:=x) (b:=4294967295) Z Z aa ah ah ah) (E Z (B.shrM (K:=4294967296) (a:=x) (b:=32) Z Z ah ah) (E Z (B.andK 32 4294967296 (a:=y) (b:=4294967295) Z Z aa ah ah ah) (E Z (B.shrM (K:=4294967296) (a:=y) (b:=32) Z Z ah ah) (E Z (B.mulN (a:=(x%4294967296)) (b:=(y%4294967296)) Z Z aa) (E Z (B.mulN (a:=(x / 4294967296)) (b:=(y%4294967296)) Z Z aa) (E Z (B.shrM (K:=4294967296) (a:=((x%4294967296)*(y%4294967296))) (b:=32) Z Z ah ah) (E Z (B.addN (a:=((x / 4294967296)*(y%4294967296))) (b:=(((x%4294967296)*(y%4294967296)) / 4294967296)) Z Z aa) (E Z (B.andK 32 4294967296 (a:=(((x / 4294967296)*(y%4294967296))+(((x%4294967296)*(y%4294967296)) / 4294967296))) (b:=4294967295) Z Z aa ah ah ah) (E Z (B.shrM (K:=4294967296) (a:=(((x / 4294967296)*(y%4294967296))+(((x%4294967296)*(y%4294967296)) / 4294967296))) (b:=32) Z Z ah ah) (E Z (B.mulN (a:=(x%4294967296)) (b:=(y / 4294967296)) Z Z aa) (E Z (B.addN (a:=((((x / 4294967296)*(y%4294967296))+(((x%4294967296)*(y%4294967296)) / 4294967296))%4294967296)) (b:=((x%4294967296)*(y / 4294967296))) Z Z aa) (E Z (B.mulN (a:=(x / 4294967296)) (b:=(y / 4294967296)) Z Z aa) (E Z (B.addN (a:=((x / 4294967296)*(y / 4294967296))) (b:=((((x / 4294967296)*(y%4294967296))+(((x%4294967296)*(y%4294967296)) / 4294967296)) / 4294967296)) Z Z aa) ?_)))))))))))))
 exact E Z (B.shrM (K:=4294967296) (a:=(((((x / 4294967296)*(y%4294967296))+(((x%4294967296)*(y%4294967296)) / 4294967296))%4294967296)+((x%4294967296)*(y / 4294967296)))) (b:=32) Z Z ah ah) (E Z (B.addN (a:=(((x / 4294967296)*(y / 4294967296))+((((x / 4294967296)*(y%4294967296))+(((x%4294967296)*(y%4294967296)) / 4294967296)) / 4294967296))) (b:=((((((x / 4294967296)*(y%4294967296))+(((x%4294967296)*(y%4294967296)) / 4294967296))%4294967296)+((x%4294967296)*(y / 4294967296))) / 4294967296)) Z Z aa) (E Z (B.mulM (a:=x) (b:=y) Z Z) (Rt Z (leaf (val0:=.tup [.pv (.lit (.int .u64 ((((((x / 4294967296)*(y / 4294967296))+((((x / 4294967296)*(y%4294967296))+(((x%4294967296)*(y%4294967296)) / 4294967296)) / 4294967296))+((((((x / 4294967296)*(y%4294967296))+(((x%4294967296)*(y%4294967296)) / 4294967296))%4294967296)+((x%4294967296)*(y / 4294967296))) / 4294967296)):Nat):Int))),.pv (.lit (.int .u64 (((x*y%B64):Nat):Int)))]) ae (kh (li (by first|exact congrArg (fun n:Nat=>(n:Int)) h5|rfl)) (rfl))))))
theorem w254 (n:Int) (hn:R64 n):qD Tryz.prog 254 [vI n] (qw []) (.pv (.lit (.int .u64 (((Int.natAbs n):Nat):Int)))) []:=by
 refine cG qf254 Z (nB Z) Z (Cp Z Z (fun h1=>?_) (fun h1=>?_))
 ·exact E Z (B.negW Z) (E Z (B.toUN (n:=(Int.natAbs n)) Z un3 un300 (negU hn h1) Z) (Rt Z (leaf Z Z)))
 exact E Z (B.toUN (n:=(Int.natAbs n)) Z un3 un300 (posU hn h1) Z) (Rt Z (leaf Z Z))
end Go.Lens.Tb
end
section
namespace Go.Lens
variable [Lz]
section
variable {P:Program} {Y:Tab} [qM P Y] {nb:Nat} {s:St} {dst:Option Tmp} {ty u:TypeId} {pos:String} {af:Array Edge} {gd:Option (Nat×Bool)} {t:TypeId} {x y z:Operand} {n:Nat} {b:Int}
theorem B.andN1 (hx:ev1 s x=lit (.int .i64 ((n:Nat):Int))) (hy:ev1 s y=lit (.int .i64 1)) (h:((n:Nat):Int)<9223372036854775808):Body P Y nb s ⟨dst,.binOp .and t x y u,ty,pos,af,gd⟩ (lit (.int .i64 (((n%2:Nat):Nat):Int))) [] []:=by
 refine B.bin hx hy ?_
 show qE (some (true,lit (.int .i64 (IntKind.wrap .i64 ((BitVec.ofInt 64 n &&&BitVec.ofInt 64 1).toNat:Nat)))))=_
 have e1:(BitVec.ofInt 64 1).toNat=2 ^ 1-1:=ah
 rw[BitVec.toNat_and,bv_nat aa,e1,Nat.and_two_pow_sub_one_eq_mod,wrap_i64]
 have:wr64 (((n%2 ^ 1:Nat):Nat):Int)=((n%2:Nat):Int):=by
  unfold wr64
  have:n%2 ^ 1=n%2:=rfl
  rw[this]
  split<;>omega
 rw[this];rfl
theorem B.shrN {k:IntKind} {K:Nat} (hx:ev1 s x=lit (.int .i64 ((n:Nat):Int))) (hy:ev1 s y=lit (.int k b)) (hb:0<=b) (hK:(2:Int) ^ (Min.min b.toNat 64)=K) (h:0<K):Body P Y nb s ⟨dst,.binOp .shr t x y u,ty,pos,af,gd⟩ (lit (.int .i64 (((n / K:Nat):Nat):Int))) [] []:=by
 refine B.bin hx hy ?_
 show qE (some (decide (0<=b),lit (.int .i64 (Int.fdiv n (2 ^ (Min.min b.toNat 64))))))=_
 rw[zl hb,hK,Int.fdiv_eq_ediv_of_nonneg _ aa];rfl
end
end Go.Lens
end
section
namespace Go.Lens.Tb
open Go.Proofs Go.Lens.Un
variable [Lz]
set_option maxRecDepth 100000
attribute [local irreducible] TK PK T RG EfR Body CG
abbrev jl:PV:=.lit (.slice none 0 0)
abbrev Sm (z:Int):Prop:=z.natAbs<=9223372036854775807
def jz (z:Int):Int:=if z<0 then -1 else if z=0 then 0 else 1
section
variable {x y a b:Int}
theorem sgn_s {z:Int}:vI (max (-1) (min 1 z))=vI (jz z):=by
 unfold jz
 congr 3
 split
 ·omega
 split<;>omega
theorem abs_n (h:x<0):(DV.pv (.agg [pI (-x),jl]))=.pv (.agg [pI ((x.natAbs:Nat):Int),jl]):=by rw[show ((x.natAbs:Nat):Int)= -x by omega]
theorem abs_p (h:¬x<0):(DV.pv (.agg [pI x,jl]))=.pv (.agg [pI ((x.natAbs:Nat):Int),jl]):=by rw[show ((x.natAbs:Nat):Int)=x by omega]
theorem add_f {p:Prop} (hx:Sm x) (hy:Sm y) (h:Sm (x+y)) (e:(decide (x<x+y)==decide (0<y))=false):p:=by
 by_cases g:0<y
 ·rw[zl g,zl (show x<x+y by omega)] at e;cases e
 rw[zk g,zk (show ¬x<x+y by omega)] at e;cases e
theorem nab {z:Int} (h:Sm z):z.natAbs<B64:=by unfold B64;omega
theorem mul_h (h:Sm (x*y)):x.natAbs*y.natAbs<=9223372036854775807:=by rw[<-Int.natAbs_mul];exact h
theorem j6 (h:Sm (x*y)):x.natAbs*y.natAbs / B64=0/\x.natAbs*y.natAbs%B64=x.natAbs*y.natAbs:=
 have g:=mul_h h
 ⟨Nat.div_eq_of_lt be,Nat.mod_eq_of_lt be⟩
theorem mul_R1 (h:Sm (x*y)):R64 ((x.natAbs*y.natAbs%B64:Nat):Int):=by
 have g:=mul_h h
 rw[(j6 h).2];unfold R64;omega
theorem mul_R2 (h:Sm (x*y)):R64 (0-((x.natAbs*y.natAbs%B64:Nat):Int)):=by
 have g:=mul_h h
 rw[(j6 h).2];unfold R64;omega
theorem mul_f {p:Prop} (h:Sm (x*y)) (e:(bif decide (((x.natAbs*y.natAbs / B64:Nat):Int)=0) then decide (((x.natAbs*y.natAbs%B64:Nat):Int)<=9223372036854775807) else false)=false):p:=by
 have g:=mul_h h
 rw[(j6 h).1,(j6 h).2,zl (show ((0:Nat):Int)=0 from rfl),zl aa] at e
 cases e
theorem abs_mul (a b:Int):(bif !(decide (a<0)==decide (b<0)) then -((a.natAbs*b.natAbs:Nat):Int) else ((a.natAbs*b.natAbs:Nat):Int))=a*b:=by
 rw[Int.natCast_mul]
 by_cases h:a<0<;>by_cases g:b<0<;>simp only[h,g,decide_true,decide_false]<;>simp[Int.ofNat_natAbs_of_nonpos,Int.natAbs_of_nonneg,Int.le_of_lt,Int.not_lt.1, *,Int.neg_mul,Int.mul_neg]
theorem mul_n (h:Sm (x*y)) (h3:(!(decide (x<0)==decide (y<0)))=true):(DV.pv (.agg [pI (0-((x.natAbs*y.natAbs%B64:Nat):Int)),jl]))=.pv (.agg [pI (x*y),jl]):=by
 have g:=abs_mul x y
 rw[h3,cond_true] at g
 rw[(j6 h).2,Int.zero_sub,g]
theorem mul_p (h:Sm (x*y)) (h3:(!(decide (x<0)==decide (y<0)))=false):(DV.pv (.agg [pI ((x.natAbs*y.natAbs%B64:Nat):Int),jl]))=.pv (.agg [pI (x*y),jl]):=by
 have g:=abs_mul x y
 rw[h3,cond_false] at g
 rw[(j6 h).2,g]
theorem cmp_l (h:a<b):vI (-1)=vI (jz (a-b)):=by unfold jz;rw[if_pos aa]
theorem cmp_m (h:b<a):vI 1=vI (jz (a-b)):=by unfold jz;rw[if_neg aa,if_neg aa]
theorem cmp_n (h:¬a<b) (h2:¬b<a):vI 0=vI (jz (a-b)):=by unfold jz;rw[if_neg aa,if_pos aa]
theorem tdm (hb:0<b):(a.tmod b<0->a / b=a.tdiv b-1/\a%b=a.tmod b+b)/\(¬a.tmod b<0->a / b=a.tdiv b/\a%b=a.tmod b):=by
 have h:=Int.mul_tdiv_add_tmod a b
 have l1:=Int.lt_tmod_of_pos a hb
 have l2:=Int.tmod_lt_of_pos a hb
 refine⟨fun g=>(Int.ediv_emod_unique hb).2 ⟨?_,aa,aa⟩,fun g=>(Int.ediv_emod_unique hb).2 ⟨aa,aa,aa⟩⟩
 rw[Int.mul_sub,Int.mul_one];omega
theorem tq_b (a:Int) {b:Int}:(a.tdiv b).natAbs<=a.natAbs:=by rw[Int.natAbs_tdiv];exact Nat.div_le_self _ _
theorem tq_R (hx:Sm x) (_:0<y):R64 (x.tdiv y):=by have:=tq_b x (b:=y);unfold R64;omega
theorem tq_S (hx:Sm x) (_:0<y) (_:x.tmod y<0):R64 (x.tdiv y-1):=by have:=tq_b x (b:=y);unfold R64;omega
theorem tq_T (hy:Sm y) (hp:0<y) (h:x.tmod y<0):R64 (x.tmod y+y):=by
 have h1:=Int.lt_tmod_of_pos x hp
 unfold R64;omega
theorem dm_1 (hp:0<y) (h2:x.tmod y<0):(DV.tup [.pv (.agg [pI (x.tdiv y-1),jl]),.pv (.agg [pI (x.tmod y+y),jl])])=.tup [.pv (.agg [pI (x / y),jl]),.pv (.agg [pI (x%y),jl])]:=by
 rw[((tdm hp).1 h2).1,((tdm hp).1 h2).2]
theorem dm_2 (hp:0<y) (h2:¬x.tmod y<0):(DV.tup [.pv (.agg [pI (x.tdiv y),jl]),.pv (.agg [pI (x.tmod y),jl])])=.tup [.pv (.agg [pI (x / y),jl]),.pv (.agg [pI (x%y),jl])]:=by
 rw[((tdm hp).2 h2).1,((tdm hp).2 h2).2]
theorem sm_neg (h:Sm x):Sm (-x):=by unfold Sm;rw[Int.natAbs_neg];exact h
def quoI (x y:Int):Int:=if y<0 then (-x) / (-y) else x / y
theorem sgn_neg {z:Int}:jz z<0↔z<0:=by
 unfold jz
 split
 ·simp;omega
 split<;>simp<;>omega
theorem sgn_0 {z:Int}:jz z=0↔z=0:=by
 unfold jz
 split
 ·simp;omega
 split<;>simp<;>assumption
theorem qn_1 (h:jz y<0):0 < -y:=by have:=sgn_neg.1 h;omega
theorem qn_2 (h0:y≠0) (h:¬jz y<0):0<y:=by
 have:¬y<0:=fun g=>h (sgn_neg.2 g)
 omega
theorem qn_3 (h:jz y<0):(DV.pv (.agg [pI ((-x) / (-y)),jl]))=.pv (.agg [pI (quoI x y),jl]):=by unfold quoI;rw[if_pos (sgn_neg.1 h)]
theorem qn_4 (h:¬jz y<0):(DV.pv (.agg [pI (x / y),jl]))=.pv (.agg [pI (quoI x y),jl]):=by unfold quoI;rw[if_neg (fun g=>h (sgn_neg.2 g))]
def GcI (G:Nat) (a b:Int):Prop:=Sm a/\Sm b/\0<=a/\0<=b/\Nat.gcd a.natAbs b.natAbs=G
theorem gc_init (hx:Sm x) (hy:Sm y):GcI (Nat.gcd x.natAbs y.natAbs) ((x.natAbs:Nat):Int) ((y.natAbs:Nat):Int):=⟨hx,hy,aa,aa,rfl⟩
theorem gc_pos {G:Nat} (h:GcI G a b) (h1:jz b≠0):0<b:=by
 have:=h.2.2.2.1
 have:b≠0:=fun e=>h1 (sgn_0.2 e)
 omega
theorem gc_mod {G:Nat} (h:GcI G a b):(a%b).natAbs=a.natAbs%b.natAbs:=Int.natAbs_emod_of_nonneg h.2.2.1 b
theorem gc_m {G:Nat} (h:GcI G a b) (h1:jz b≠0):(a%b).natAbs<b.natAbs:=by
 rw[gc_mod h];exact Nat.mod_lt _ (by have:=gc_pos h h1;omega)
theorem gc_step {G:Nat} (h:GcI G a b) (h1:jz b≠0):GcI G b (a%b):=by
 have hm:=gc_m h h1
 have hp:=gc_pos h h1
 refine⟨h.2.1,by have:=h.2.1;omega,h.2.2.2.1,Int.emod_nonneg _ aa,?_⟩
 rw[gc_mod h,<-h.2.2.2.2,Nat.gcd_comm b.natAbs,<-Nat.gcd_rec,Nat.gcd_comm]
theorem gc_end {G:Nat} (h:GcI G a b) (h1:¬jz b≠0):(G:Int)=a:=by
 have e:b=0:=sgn_0.1 (zi.1 h1)
 have h2:=h.2.2.2.2
 rw[e,Int.natAbs_zero,Nat.gcd_zero_right] at h2
 have:=h.2.2.1
 omega
def PwI (x:Int) (k j:Nat) (o a:Int):Prop:=∃ i e,o=x ^ i/\a=x ^ e/\i+e*j=k
variable {k j:Nat} {o:Int}
theorem pw_init:PwI x k k 1 x:=⟨0,1,by rw[Int.pow_zero],by rw[Int.pow_succ,Int.pow_zero,Int.one_mul],aa⟩
theorem pw_o (h:PwI x k j o a) (hp:∀ i,i<=k->Sm (x ^ i)):Sm o:=by
 obtain⟨i,e,rfl,rfl,h⟩:=h
 exact hp _ aa
theorem pw_a (h:PwI x k j o a) (hp:∀ i,i<=k->Sm (x ^ i)) (hj:0<j):Sm a:=by
 obtain⟨i,e,rfl,rfl,h⟩:=h
 have:e*1<=e*j:=Nat.mul_le_mul_left e hj
 exact hp _ aa
theorem pw_m (h:PwI x k j o a) (hp:∀ i,i<=k->Sm (x ^ i)) (hj:0<j):Sm (o*a):=by
 obtain⟨i,e,rfl,rfl,h⟩:=h
 have:e*1<=e*j:=Nat.mul_le_mul_left e hj
 rw[<-Int.pow_add]
 exact hp _ aa
theorem pw_d (h:PwI x k j o a) (hp:∀ i,i<=k->Sm (x ^ i)) (hj:1<j):Sm (a*a):=by
 obtain⟨i,e,rfl,rfl,h⟩:=h
 have:e*2<=e*j:=Nat.mul_le_mul_left e hj
 rw[<-Int.pow_add]
 exact hp _ aa
theorem pw_next (h:PwI x k j o a) (hj:0<j):PwI x k (j / 2) (if ((j%2:Nat):Int)=1 then o*a else o) (if (1:Int)<((j:Nat):Int) then a*a else a):=by
 obtain⟨i,e,rfl,rfl,h⟩:=h
 have he:e*j=e*(j / 2*2)+e*(j%2):=by rw[<-Nat.mul_add];congr 1;omega
 have hf:e*(j / 2*2)=(e+e)*(j / 2):=by rw[Nat.mul_comm (j / 2) 2,<-Nat.mul_assoc,Nat.mul_two]
 by_cases h1:((j%2:Nat):Int)=1<;>by_cases h2:(1:Int)<((j:Nat):Int)
 ·rw[if_pos h1,if_pos h2]
  rw[show j%2=1 by omega,Nat.mul_one] at he
  exact⟨i+e,e+e,Int.pow_add .. |>.symm,Int.pow_add .. |>.symm,aa⟩
 ·rw[if_pos h1,if_neg h2]
  have:j=1:=aa
  subst this
  exact⟨i+e,e,Int.pow_add .. |>.symm,rfl,aa⟩
 ·rw[if_neg h1,if_pos h2]
  rw[show j%2=0 by omega] at he
  exact⟨i,e+e,rfl,Int.pow_add .. |>.symm,aa⟩
 have e:j=1:=aa
 subst e;exact absurd Z h1
theorem pw_end (h:PwI x k j o a) (hj:j=0):x ^ k=o:=by
 subst hj
 obtain⟨i,e,rfl,rfl,h⟩:=h
 rw[<-h];rfl
theorem bt_b {x:Nat} (h:x<B64):jk x<=64:=by
 rcases Nat.lt_or_ge 64 (jk x) with g|g
 ·exfalso
  have h0:x≠0:=by intro e;subst e;exact absurd g ah
  have h1:=blen_le h0
  have h2:=Nat.pow_le_pow_right (show 0<2 by decide) (show 64<=jk x-1 by omega)
  have:(2:Nat) ^ 64=B64:=ah
  omega
 exact g
end
def len8:List UInt8:=[0,1,2,2,3,3,3,3,4,4,4,4,4,4,4,4,5,5,5,5,5,5,5,5,5,5,5,5,5,5,5,5,6,6,6,6,6,6,6,6,6,6,6,6,6,6,6,6,6,6,6,6,6,6,6,6,6,6,6,6,6,6,6,6,7,7,7,7,7,7,7,7,7,7,7,7,7,7,7,7,7,7,7,7,7,7,7,7,7,7,7,7,7,7,7,7,7,7,7,7,7,7,7,7,7,7,7,7,7,7,7,7,7,7,7,7,7,7,7,7,7,7,7,7,7,7,7,7,8,8,8,8,8,8,8,8,8,8,8,8,8,8,8,8,8,8,8,8,8,8,8,8,8,8,8,8,8,8,8,8,8,8,8,8,8,8,8,8,8,8,8,8,8,8,8,8,8,8,8,8,8,8,8,8,8,8,8,8,8,8,8,8,8,8,8,8,8,8,8,8,8,8,8,8,8,8,8,8,8,8,8,8,8,8,8,8,8,8,8,8,8,8,8,8,8,8,8,8,8,8,8,8,8,8,8,8,8,8,8,8,8,8,8,8,8,8,8,8,8,8,8,8,8,8,8,8]
theorem len8_ok:∀ k,k<256->(len8.getD k 0).toNat=jk k:=by decide +kernel
theorem blen_256:∀ k,k<256->jk k<=8:=by decide +kernel
def lA (K k:Nat) (p:Nat×Nat):Nat×Nat:=if K<=p.1 then (p.1 / K,p.2+k) else p
theorem lA_t {K k:Nat} {p:Nat×Nat} (h:K<=p.1):lA K k p=(p.1 / K,p.2+k):=by rw[lA,if_pos h]
theorem lA_f {K k:Nat} {p:Nat×Nat} (h:¬K<=p.1):lA K k p=p:=by rw[lA,if_neg h]
theorem lA_blen {k:Nat} (p:Nat×Nat):jk (lA (2 ^ k) k p).1+(lA (2 ^ k) k p).2=jk p.1+p.2:=by
 by_cases h:2 ^ k<=p.1
 ·rw[lA_t h,blen_shift h]
  show jk (p.1 / 2 ^ k)+(p.2+k)=_
  omega
 rw[lA_f h]
theorem lA_lt {K k N:Nat} {p:Nat×Nat} (hK:0<K) (h:p.1<K*N) (hN:K<=N):(lA K k p).1<N:=by
 by_cases g:K<=p.1
 ·rw[lA_t g];exact Nat.div_lt_of_lt_mul h
 rw[lA_f g];omega
theorem lA_snd {K k n:Nat} {p:Nat×Nat} (h:p.2<=n):(lA K k p).2<=n+k:=by
 by_cases g:K<=p.1
 ·rw[lA_t g];exact Nat.add_le_add_right h k
 rw[lA_f g];omega
theorem len8_rng {k:Nat} (h:k<256):0<=byteAt (bsO len8) k/\byteAt (bsO len8) k<=8:=by
 rw[byteAt_bsO,len8_ok k h]
 have:=blen_256 k h
 omega
theorem len8_R1 {k:Nat} (h:k<256):R64 (byteAt (bsO len8) k):=by
 have:=len8_rng h
 unfold R64;omega
theorem len8_R2 {k n:Nat} (h:k<256) (hn:n<=56):R64 (((n:Nat):Int)+byteAt (bsO len8) k):=by
 have:=len8_rng h
 unfold R64;omega
theorem lA_small (x:Nat) (hx:x<B64):(lA 256 8 (lA 65536 16 (lA 4294967296 32 (x,0)))).1<256:=
 lA_lt ah (lA_lt (N:=256*256) ah (lA_lt (N:=65536*65536) ah (show x<4294967296*(65536*65536) from hx) ah) ah) ah
theorem lA_all (x:Nat) (hx:x<B64):(len8.getD (lA 256 8 (lA 65536 16 (lA 4294967296 32 (x,0)))).1 0).toNat+(lA 256 8 (lA 65536 16 (lA 4294967296 32 (x,0)))).2=jk x:=by
 rw[len8_ok _ (lA_small x hx),show (256:Nat)=2 ^ 8 from rfl,lA_blen,show (65536:Nat)=2 ^ 16 from rfl,lA_blen,show (4294967296:Nat)=2 ^ 32 from rfl,lA_blen]
 rfl
theorem lA_end (x:Nat) (hx:x<B64):((Prod.snd (lA 256 8 (lA 65536 16 (lA 4294967296 32 (x,0)))):Nat):Int)+byteAt (bsO len8) (Prod.fst (lA 256 8 (lA 65536 16 (lA 4294967296 32 (x,0)))))=((jk x:Nat):Int):=by
 rw[byteAt_bsO,<-lA_all x hx]
 omega
theorem ag152:aggT tab 152=some false:=ae
theorem ag154:aggT tab 154=some true:=ae
theorem ag3:aggT tab 3=some false:=ae
theorem fa154_0:fadQ tab 154 0=some 0:=ae
theorem fa154_1:fadQ tab 154 1=some 1:=ae
theorem sz152:szT tab 152=some 1:=ae
theorem sz154:szT tab 154=some 2:=ae
theorem sz3:szT tab 3=some 1:=ae
theorem sz300:szT tab 300=some 1:=ae
theorem un152:tab.underlying 152=some (.slice 300):=ae
theorem un4:tab.underlying 4=some (.bool):=ae
theorem un5:tab.underlying 5=some (.int (.u8)):=ae
theorem un9:tab.underlying 9=some (.string):=ae
theorem w309 (x:Nat) (hx:x<B64):qD Tryz.prog 309 [.pv (.lit (.int .u64 ((x:Nat):Int)))] (qw []) (vI (((jk x):Nat):Int)) []:=by
 refine cG qf309 Z (nB Z) Z (Cj [(0,.pv (.lit (.int .u64 (((Prod.fst (lA 4294967296 32 (x,0))):Nat):Int)))),(2,vI (((Prod.snd (lA 4294967296 32 (x,0))):Nat):Int))] [] Z Z Z (fun h1=>?_) (fun h1=>?_) ?_)
 ·replace h1:=of_decide_eq_true h1
  refine E Z (B.shrM (K:=4294967296) (a:=x) (b:=32) Z Z ah ah) (pk Z ?_)
  show Sub _ _ _
  first|(rw[lA_t (K:=4294967296) bf];exact sb rfl rfl rfl)|(rw[lA_f (K:=4294967296) bg];exact sb Z Z Z)
 ·replace h1:=of_decide_eq_false h1
  refine pk Z ?_
  show Sub _ _ _
  first|(rw[lA_t (K:=4294967296) bf];exact sb rfl rfl rfl)|(rw[lA_f (K:=4294967296) bg];exact sb Z Z Z)
 have hs1:Prod.snd (lA 4294967296 32 (x,0))<=32:=lA_snd (p:=(x,0)) (zC 0)
 refine Cj [(0,.pv (.lit (.int .u64 (((Prod.fst (lA 65536 16 (lA 4294967296 32 (x,0)))):Nat):Int)))),(2,vI (((Prod.snd (lA 65536 16 (lA 4294967296 32 (x,0)))):Nat):Int))] [] Z Z Z (fun h2=>?_) (fun h2=>?_) ?_
 ·replace h2:=of_decide_eq_true h2
  refine E Z (B.shrM (K:=65536) (a:=(Prod.fst (lA 4294967296 32 (x,0)))) (b:=16) Z Z ah ah) (E Z (B.add Z Z bh) (pk Z ?_))
  show Sub _ _ _
  first|(rw[lA_t (K:=65536) bf];exact sb rfl rfl rfl)|(rw[lA_f (K:=65536) bg];exact sb Z Z Z)
 ·replace h2:=of_decide_eq_false h2
  refine pk Z ?_
  show Sub _ _ _
  first|(rw[lA_t (K:=65536) bf];exact sb rfl rfl rfl)|(rw[lA_f (K:=65536) bg];exact sb Z Z Z)
 have hs2:Prod.snd (lA 65536 16 (lA 4294967296 32 (x,0)))<=48:=lA_snd hs1
 refine Cj [(0,.pv (.lit (.int .u64 (((Prod.fst (lA 256 8 (lA 65536 16 (lA 4294967296 32 (x,0))))):Nat):Int)))),(2,vI (((Prod.snd (lA 256 8 (lA 65536 16 (lA 4294967296 32 (x,0))))):Nat):Int))] [] Z Z Z (fun h3=>?_) (fun h3=>?_) ?_
 ·replace h3:=of_decide_eq_true h3
  refine E Z (B.shrM (K:=256) (a:=(Prod.fst (lA 65536 16 (lA 4294967296 32 (x,0))))) (b:=8) Z Z ah ah) (E Z (B.add Z Z bh) (pk Z ?_))
  show Sub _ _ _
  first|(rw[lA_t (K:=256) bf];exact sb rfl rfl rfl)|(rw[lA_f (K:=256) bg];exact sb Z Z Z)
 ·replace h3:=of_decide_eq_false h3
  refine pk Z ?_
  show Sub _ _ _
  first|(rw[lA_t (K:=256) bf];exact sb rfl rfl rfl)|(rw[lA_f (K:=256) bg];exact sb Z Z Z)
 have hs3:Prod.snd (lA 256 8 (lA 65536 16 (lA 4294967296 32 (x,0))))<=56:=lA_snd hs2
 have h3x:=lA_small x hx
 have hl8:List.length len8=256:=by decide +kernel
 have hb8:=len8_rng (k:=Prod.fst (lA 256 8 (lA 65536 16 (lA 4294967296 32 (x,0))))) h3x
 exact E Z (B.toBN Z un300 un5 aa Z) (E Z (B.sidx (i:=(Prod.fst (lA 256 8 (lA 65536 16 (lA 4294967296 32 (x,0)))))) Z Z un9 Z (show (Prod.fst (lA 256 8 (lA 65536 16 (lA 4294967296 32 (x,0)))))<List.length len8 from aa)) (E Z (B.toI Z un5 un3 bh Z) (E Z (B.add Z Z bh) (Rt Z (leaf (val0:=vI ((((Prod.snd (lA 256 8 (lA 65536 16 (lA 4294967296 32 (x,0))))):Nat):Int)+(byteAt (bsO len8) (Prod.fst (lA 256 8 (lA 65536 16 (lA 4294967296 32 (x,0)))))))) ae (li (by exact lA_end x hx)))))))
theorem w177 (x:Int):qD Tryz.prog 177 [vI x] (qw []) (.pv (.agg [pI x,.lit (.slice none 0 0)])) []:=by
 refine cG qf177 Z (nB Z) Z (E Z (B.ja Z (fun l=>Frz.jU l Z) Z) (E Z (B.ja (val:=.pv (.agg [pI x,.lit (.slice none 0 0)])) Z (fun l=>Frz.aggZ l Z) Z) ?_))
 refine Rt Z ?_
 exact leaf (val0:=.pv (.agg [pI x,.lit (.slice none 0 0)])) ae bi
theorem w247z:qD Tryz.prog 247 [.pv (.agg [pI 0,.lit (.slice none 0 0)])] (qw []) (.tup [vB false,vL eU []]) []:=by
 refine cG qf247 Z (nB Z) Z (E Z (B.kg (enc:=eU) Z) (E Z (B.run Z) (CF Z Z (CT Z Z (E Z (B.kg (enc:=eU) Z) ?_)))))
 refine Rt Z ?_
 exact leaf (val0:=.tup [vB false,vL eU []]) ae bi
theorem w247 (x:Int) (hx:Sm x) (h0:x≠0):qD Tryz.prog 247 [.pv (.agg [pI x,.lit (.slice none 0 0)])] (qw []) (.tup [vB (decide (x<0)),vL eU [(Int.natAbs x)]]) []:=by
 refine cG qf247 Z (nB Z) Z (E Z (B.kg (enc:=eU) Z) (E Z (B.run Z) (CF Z Z (Cp Z Z (fun h1=>?_) (fun h1=>?_)))))
 ·exact absurd h1 h0
 refine C Z (w254 x bj) Z Z Z (E Z (B.ja (val:=.pv (.slice (List.map eU [(Int.natAbs x)]))) Z (fun l=>Frz.arr l _ _ _ _ _) Z) (Dr Z ae ?_))
 refine Rt Z ?_
 exact leaf (val0:=.tup [vB (decide (x<0)),vL eU [(Int.natAbs x)]]) ae bi
theorem w192 (x:Int) (hx:Sm x):qD Tryz.prog 192 [.pv (.agg [pI x,.lit (.slice none 0 0)])] (qw []) (.pv (.agg [pI (-x),.lit (.slice none 0 0)])) []:=by
 refine cG qf192 Z (nB Z) Z (E Z (B.ja Z (fun l=>Frz.jU l Z) Z) (E Z (B.run Z) (Et Z Z (B.fadB Z fa154_0 Z) (Et Z Z (B.kJ Z Z Z ag3 sz3 Z) (Et Z Z (B.neq Z Z) (E Z (B.pick Z Z Z Z Z (pick_tt _)) (Cb Z Z (fun h1=>?_) (fun h1=>?_))))))))
 ·refine E Z (B.neg Z bj) (E Z (B.ja (val:=.pv (.agg [pI (0-x),.lit (.slice none 0 0)])) Z (fun l=>Frz.aggZ l Z) Z) ?_)
  refine Rt Z ?_
  exact leaf (val0:=.pv (.agg [pI (0-x),.lit (.slice none 0 0)])) ae (by rw[Int.zero_sub])
 exact absurd h1 bk
theorem w212 (x:Int):qD Tryz.prog 212 [.pv (.agg [pI x,.lit (.slice none 0 0)])] (qw []) (vI (jz x)) []:=by
 refine cG qf212 Z (nB Z) Z (E Z (B.min Z Z) (E Z (B.max Z Z) ?_))
 refine Rt Z ?_
 exact leaf (val0:=vI (max (-1) (min 1 x))) ae (by exact sgn_s)
theorem w240 (x:Int) (hx:Sm x):qD Tryz.prog 240 [.pv (.agg [pI x,.lit (.slice none 0 0)])] (qw []) (.pv (.agg [pI ((Int.natAbs x:Nat):Int),.lit (.slice none 0 0)])) []:=by
 refine cG qf240 Z (nB Z) Z (E Z (B.ja Z (fun l=>Frz.jU l Z) Z) (Cp Z Z (fun h1=>?_) (fun h1=>?_)))
 ·refine C Z (w192 x ab) Z Z Z ?_
  refine Rt Z ?_
  exact leaf (val0:=.pv (.agg [pI (-x),.lit (.slice none 0 0)])) ae bl
 refine Rt Z ?_
 exact leaf (val0:=.pv (.agg [pI x,.lit (.slice none 0 0)])) ae bl
theorem w198 (x y:Int) (hx:Sm x) (hy:Sm y) (h:Sm (x+y)):qD Tryz.prog 198 [.pv (.agg [pI x,.lit (.slice none 0 0)]),.pv (.agg [pI y,.lit (.slice none 0 0)])] (qw []) (.pv (.agg [pI (x+y),.lit (.slice none 0 0)])) []:=by
 refine cG qf198 Z (nB Z) Z (E Z (B.ja Z (fun l=>Frz.jU l Z) Z) (E Z (B.run Z) (Et Z Z (B.fadB Z fa154_1 Z) (Et Z Z (B.kJ Z Z Z ag152 sz152 Z) (Et Z Z (B.run Z) (E Z (B.pick Z Z Z Z Z (pick_tt _)) (Cb Z Z (fun h1=>?_) (fun h1=>?_))))))))
 ·refine E Z (B.add Z Z bj) (E Z (B.bqB Z Z un4) (Cb Z Z (fun h2=>?_) (fun h2=>?_)))
  ·refine E Z (B.ja (val:=.pv (.agg [pI (x+y),.lit (.slice none 0 0)])) Z (fun l=>Frz.aggZ l Z) Z) ?_
   refine Rt Z ?_
   exact leaf (val0:=.pv (.agg [pI (x+y),.lit (.slice none 0 0)])) ae bi
  exact add_f hx hy h h2
 exact Bool.noConfusion (show true=false from h1)
theorem w199 (x y:Int) (hx:Sm x) (hy:Sm y) (h:Sm (x*y)):qD Tryz.prog 199 [.pv (.agg [pI x,.lit (.slice none 0 0)]),.pv (.agg [pI y,.lit (.slice none 0 0)])] (qw []) (.pv (.agg [pI (x*y),.lit (.slice none 0 0)])) []:=by
 refine cG qf199 Z (nB Z) Z (E Z (B.ja Z (fun l=>Frz.jU l Z) Z) (E Z (B.run Z) (Et Z Z (B.fadB Z fa154_1 Z) (Et Z Z (B.kJ Z Z Z ag152 sz152 Z) (Et Z Z (B.run Z) (E Z (B.pick Z Z Z Z Z (pick_tt _)) (Cb Z Z (fun h1=>?_) (fun h1=>?_))))))))
 ·have hn1:=nab hx
  have hn2:=nab hy
  refine C Z (w254 x bj) Z Z Z (C Z (w254 y bj) Z Z Z (C Z (w253 (Int.natAbs x) (Int.natAbs y) aa aa) Z Z Z (Dr Z ae (Eg Z Z (fun hc=>B.move Z) Z (Eg Z Z (fun hc=>B.leq (qz Z hc) Z) Z (E Z (B.pick Z Z Z (gdB Z) Z (q0 _)) (Cb Z Z (fun h2=>?_) (fun h2=>?_))))))))
  ·refine E Z (B.bnB Z Z un4) (Cb Z Z (fun h3=>?_) (fun h3=>?_))
   ·refine E Z (B.toI Z un300 un3 bm Z) (E Z (B.neg Z bm) (E Z (B.ja (val:=.pv (.agg [pI (0-((((Int.natAbs x)*(Int.natAbs y)%B64):Nat):Int)),.lit (.slice none 0 0)])) Z (fun l=>Frz.aggZ l Z) Z) ?_))
    refine Rt Z ?_
    exact leaf (val0:=.pv (.agg [pI (0-((((Int.natAbs x)*(Int.natAbs y)%B64):Nat):Int)),.lit (.slice none 0 0)])) ae bo
   refine E Z (B.toI Z un300 un3 bm Z) (E Z (B.ja (val:=.pv (.agg [pI ((((Int.natAbs x)*(Int.natAbs y)%B64):Nat):Int),.lit (.slice none 0 0)])) Z (fun l=>Frz.aggZ l Z) Z) ?_)
   refine Rt Z ?_
   exact leaf (val0:=.pv (.agg [pI ((((Int.natAbs x)*(Int.natAbs y)%B64):Nat):Int),.lit (.slice none 0 0)])) ae bo
  exact mul_f h h2
 exact Bool.noConfusion (show true=false from h1)
theorem w190 (x y:Int):qD Tryz.prog 190 [.pv (.agg [pI x,.lit (.slice none 0 0)]),.pv (.agg [pI y,.lit (.slice none 0 0)])] (qw []) (vI (jz (x-y))) []:=by
 refine cG qf190 Z (nB Z) Z (E Z (B.run Z) (Et Z Z (B.fadB Z fa154_1 Z) (Et Z Z (B.kJ Z Z Z ag152 sz152 Z) (Et Z Z (B.run Z) (E Z (B.pick Z Z Z Z Z (pick_tt _)) (Cb Z Z (fun h1=>?_) (fun h1=>?_)))))))
 ·refine Cp Z Z (fun h2=>?_) (fun h2=>?_)
  ·refine Rt Z ?_
   exact leaf (val0:=vI (-1)) ae bp
  refine Cp Z Z (fun h3=>?_) (fun h3=>?_)
  ·refine Rt Z ?_
   exact leaf (val0:=vI 1) ae bp
  refine Rt Z ?_
  exact leaf (val0:=vI 0) ae bp
 exact Bool.noConfusion (show true=false from h1)
theorem w241 (x y:Int) (hx:Sm x) (hy:Sm y) (hp:0<y):qD Tryz.prog 241 [.pv (.agg [pI x,.lit (.slice none 0 0)]),.pv (.agg [pI y,.lit (.slice none 0 0)])] (qw []) (.tup [.pv (.agg [pI (x / y),.lit (.slice none 0 0)]),.pv (.agg [pI (x%y),.lit (.slice none 0 0)])]) []:=by
 refine cG qf241 Z (nB Z) Z (E Z (B.ja Z (fun l=>Frz.jU l Z) Z) (E Z (B.ja Z (fun l=>Frz.jU l Z) Z) (E Z (B.run Z) (Et Z Z (B.fadB Z fa154_1 Z) (Et Z Z (B.kJ Z Z Z ag152 sz152 Z) (Et Z Z (B.run Z) (E Z (B.pick Z Z Z Z Z (pick_tt _)) (Eg Z Z (fun hc=>B.fadB Z fa154_0 Z) Z (Eg Z Z (fun hc=>B.kJ (qz Z hc) Z Z ag3 sz3 Z) Z (Eg Z Z (fun hc=>B.neq (qz Z hc) Z) Z (E Z (B.pick Z Z Z (gdB Z) Z (q0 _)) (Cb Z Z (fun h1=>?_) (fun h1=>?_)))))))))))))
 ·refine E Z (B.quo Z Z ⟨aa,bq⟩) (E Z (B.rem Z Z aa) (Dr Z ae (Cp Z Z (fun h2=>?_) (fun h2=>?_))))
  ·refine E Z (B.sub Z Z bq) (E Z (B.add Z Z bq) (Dr Z ae (E Z (B.ja (val:=.pv (.agg [pI ((Int.tdiv x y)-1),.lit (.slice none 0 0)])) Z (fun l=>Frz.aggZ l Z) Z) (E Z (B.ja (val:=.pv (.agg [pI ((Int.tmod x y)+y),.lit (.slice none 0 0)])) Z (fun l=>Frz.aggZ l Z) Z) ?_))))
   refine Rt Z ?_
   exact leaf (val0:=.tup [.pv (.agg [pI ((Int.tdiv x y)-1),.lit (.slice none 0 0)]),.pv (.agg [pI ((Int.tmod x y)+y),.lit (.slice none 0 0)])]) ae bt
  refine E Z (B.ja (val:=.pv (.agg [pI (Int.tdiv x y),.lit (.slice none 0 0)])) Z (fun l=>Frz.aggZ l Z) Z) (E Z (B.ja (val:=.pv (.agg [pI (Int.tmod x y),.lit (.slice none 0 0)])) Z (fun l=>Frz.aggZ l Z) Z) ?_)
  refine Rt Z ?_
  exact leaf (val0:=.tup [.pv (.agg [pI (Int.tdiv x y),.lit (.slice none 0 0)]),.pv (.agg [pI (Int.tmod x y),.lit (.slice none 0 0)])]) ae bt
 exact absurd h1 bk
theorem w230 (x y:Int) (hx:Sm x) (hy:Sm y) (h0:y≠0):qD Tryz.prog 230 [.pv (.agg [pI x,.lit (.slice none 0 0)]),.pv (.agg [pI y,.lit (.slice none 0 0)])] (qw []) (.pv (.agg [pI (quoI x y),.lit (.slice none 0 0)])) []:=by
 refine cG qf230 Z (nB Z) Z (E Z (B.ja Z (fun l=>Frz.jU l Z) Z) (C Z (w212 y) Z Z Z (Cp Z Z (fun h1=>?_) (fun h1=>?_))))
 ·refine C Z (w192 x ab) Z Z Z (C Z (w192 y ab) Z Z Z (Dr Z ae (C Z (w241 (-x) (-y) (sm_neg hx) (sm_neg hy) (qn_1 h1)) Z Z Z (E Z (B.ja Z (fun l=>Frz.jU l Z) Z) (E Z (B.ja Z (fun l=>Frz.jU l Z) Z) ?_)))))
  refine Rt Z ?_
  exact leaf (val0:=.pv (.agg [pI ((-x) / (-y)),.lit (.slice none 0 0)])) ae bu
 refine C Z (w241 x y hx hy (qn_2 h0 h1)) Z Z Z (E Z (B.ja Z (fun l=>Frz.jU l Z) Z) (E Z (B.ja Z (fun l=>Frz.jU l Z) Z) ?_))
 refine Rt Z ?_
 exact leaf (val0:=.pv (.agg [pI (x / y),.lit (.slice none 0 0)])) ae bu
theorem w188 (x y:Int) (hx:Sm x) (hy:Sm y):qD Tryz.prog 188 [.pv (.agg [pI x,.lit (.slice none 0 0)]),.pv (.agg [pI y,.lit (.slice none 0 0)])] (qw []) (.pv (.agg [pI (((Nat.gcd (Int.natAbs x) (Int.natAbs y)):Nat):Int),.lit (.slice none 0 0)])) []:=by
 refine cG qf188 Z (nB Z) Z (E Z (B.ja Z (fun l=>Frz.jU l Z) Z) (C Z (w240 x ab) Z Z Z (C Z (w240 y ab) Z Z Z (Dr Z ae (l2 (fun (a:Int) (b:Int)=>[(2,.bref 3 0),(3,.bref 4 0),(4,.bref 5 0)]) (fun a b=>[(3,.box 154 [vI a,.pv (.lit (.slice none 0 0))]),(4,.box 154 [vI b,.pv (.lit (.slice none 0 0))]),(5,.box 154 [vI 0,.pv (.lit (.slice none 0 0))])]) (fun a b=>GcI (Nat.gcd (Int.natAbs x) (Int.natAbs y)) a b) (fun _ b=>Int.natAbs b) ((Int.natAbs x:Nat):Int) ((Int.natAbs y:Nat):Int) Z ?_ (sb Z Z Z) ?_)))))
 · exact gc_init hx hy
 intro a b hI0
 refine C Z (w212 b) Z Z Z (Cp Z Z (fun h1=>?_) (fun h1=>?_))
 ·refine C Z (w241 a b hI0.1 hI0.2.1 (gc_pos hI0 h1)) Z Z Z (E Z (B.ja Z (fun l=>Frz.jU l Z) Z) (E Z (B.ja Z (fun l=>Frz.jU l Z) Z) (Dr Z ae (pk Z (L2 b (a%b) ?_ ?_ (sb Z Z Z))))))
  · exact gc_step hI0 h1
  · exact gc_m hI0 h1
 refine Rt Z ?_
 exact leaf (val0:=.pv (.agg [pI a,.lit (.slice none 0 0)])) ae (by rw[gc_end hI0 h1])
theorem w245 (x:Int) (k:Nat) (hp:∀ i,i<=k->Sm (x ^ i)) (hk:k<9223372036854775808):qD Tryz.prog 245 [.pv (.agg [pI x,.lit (.slice none 0 0)]),vI ((k:Nat):Int)] (qw []) (.pv (.agg [pI (x ^ k),.lit (.slice none 0 0)])) []:=by
 refine cG qf245 Z (nB Z) Z (E Z (B.ja Z (fun l=>Frz.jU l Z) Z) (C Z (w177 1) Z Z Z (E Z (B.ja Z (fun l=>Frz.jU l Z) Z) (l3 (fun (j:Nat) (o:Int) (a:Int)=>[(1,vI ((j:Nat):Int)),(2,.bref 3 0),(4,.bref 5 0),(5,.bref 6 0)]) (fun _ o a=>[(3,.box 154 [vI a,.pv (.lit (.slice none 0 0))]),(5,.box 154 [vI 0,.pv (.lit (.slice none 0 0))]),(6,.box 154 [vI o,.pv (.lit (.slice none 0 0))])]) (fun j o a=>PwI x k j o a/\j<=k) (fun j _ _=>j) k 1 x Z ?_ (sb Z Z Z) ?_))))
 · exact⟨pw_init,zC _⟩
 intro j o a hI0
 have hjk:=hI0.2
 replace hI0:=hI0.1
 refine Cp Z Z (fun h1=>?_) (fun h1=>?_)
 ·refine E Z (B.andN1 (n:=j) Z Z aa) (Cp Z Z (fun h2=>?_) (fun h2=>?_))
  ·refine C Z (w199 o a (pw_o hI0 hp) (pw_a hI0 hp aa) (pw_m hI0 hp aa)) Z Z Z (Cp Z Z (fun h3=>?_) (fun h3=>?_))
   ·refine C Z (w199 a a (pw_a hI0 hp aa) (pw_a hI0 hp aa) (pw_d hI0 hp aa)) Z Z Z (E Z (B.shrN (n:=j) (K:=2) Z Z ah ah ah) (pk Z (L3 (j / 2) (o*a) (a*a) ?_ ?_ (sb Z Z Z))))
    · (refine⟨?_,aa⟩;have hn:=pw_next hI0 aa;first|rwa [if_pos (c:=((j%2:Nat):Int)=1) ab,if_pos (c:=(1:Int)<((j:Nat):Int)) ab] at hn|rwa [if_pos (c:=((j%2:Nat):Int)=1) ab,if_neg (c:=(1:Int)<((j:Nat):Int)) ab] at hn|rwa [if_neg (c:=((j%2:Nat):Int)=1) ab,if_pos (c:=(1:Int)<((j:Nat):Int)) ab] at hn|rwa [if_neg (c:=((j%2:Nat):Int)=1) ab,if_neg (c:=(1:Int)<((j:Nat):Int)) ab] at hn)
    · omega
   refine E Z (B.shrN (n:=j) (K:=2) Z Z ah ah ah) (pk Z (L3 (j / 2) (o*a) a ?_ ?_ (sb Z Z Z)))
   · (refine⟨?_,aa⟩;have hn:=pw_next hI0 aa;first|rwa [if_pos (c:=((j%2:Nat):Int)=1) ab,if_pos (c:=(1:Int)<((j:Nat):Int)) ab] at hn|rwa [if_pos (c:=((j%2:Nat):Int)=1) ab,if_neg (c:=(1:Int)<((j:Nat):Int)) ab] at hn|rwa [if_neg (c:=((j%2:Nat):Int)=1) ab,if_pos (c:=(1:Int)<((j:Nat):Int)) ab] at hn|rwa [if_neg (c:=((j%2:Nat):Int)=1) ab,if_neg (c:=(1:Int)<((j:Nat):Int)) ab] at hn)
   · omega
  refine Cp Z Z (fun h4=>?_) (fun h4=>?_)
  ·refine C Z (w199 a a (pw_a hI0 hp aa) (pw_a hI0 hp aa) (pw_d hI0 hp aa)) Z Z Z (E Z (B.shrN (n:=j) (K:=2) Z Z ah ah ah) (pk Z (L3 (j / 2) o (a*a) ?_ ?_ (sb Z Z Z))))
   · (refine⟨?_,aa⟩;have hn:=pw_next hI0 aa;first|rwa [if_pos (c:=((j%2:Nat):Int)=1) ab,if_pos (c:=(1:Int)<((j:Nat):Int)) ab] at hn|rwa [if_pos (c:=((j%2:Nat):Int)=1) ab,if_neg (c:=(1:Int)<((j:Nat):Int)) ab] at hn|rwa [if_neg (c:=((j%2:Nat):Int)=1) ab,if_pos (c:=(1:Int)<((j:Nat):Int)) ab] at hn|rwa [if_neg (c:=((j%2:Nat):Int)=1) ab,if_neg (c:=(1:Int)<((j:Nat):Int)) ab] at hn)
   · omega
  refine E Z (B.shrN (n:=j) (K:=2) Z Z ah ah ah) (pk Z (L3 (j / 2) o a ?_ ?_ (sb Z Z Z)))
  · (refine⟨?_,aa⟩;have hn:=pw_next hI0 aa;first|rwa [if_pos (c:=((j%2:Nat):Int)=1) ab,if_pos (c:=(1:Int)<((j:Nat):Int)) ab] at hn|rwa [if_pos (c:=((j%2:Nat):Int)=1) ab,if_neg (c:=(1:Int)<((j:Nat):Int)) ab] at hn|rwa [if_neg (c:=((j%2:Nat):Int)=1) ab,if_pos (c:=(1:Int)<((j:Nat):Int)) ab] at hn|rwa [if_neg (c:=((j%2:Nat):Int)=1) ab,if_neg (c:=(1:Int)<((j:Nat):Int)) ab] at hn)
  · omega
 refine Rt Z ?_
 exact leaf (val0:=.pv (.agg [pI o,.lit (.slice none 0 0)])) ae (by rw[pw_end hI0 aa])
theorem w275z:qD Tryz.prog 275 [.pv (.agg [pI 0,.lit (.slice none 0 0)])] (qw []) (vI ((0:Nat):Int)) []:=by
 refine cG qf275 Z (nB Z) Z (C Z (w247z) Z Z Z (E Z (B.jW Z un152) (Cp Z Z (fun h1=>?_) (fun h1=>?_))))
 ·refine Rt Z ?_
  exact leaf (val0:=vI 0) ae bi
 exact absurd Z h1
theorem w275n (x:Int) (hx:Sm x) (h0:x≠0):qD Tryz.prog 275 [.pv (.agg [pI x,.lit (.slice none 0 0)])] (qw []) (vI (((jk (Int.natAbs x)):Nat):Int)) []:=by
 refine cG qf275 Z (nB Z) Z ?_
 have hn1:=nab hx
 have hbb:=bt_b hn1
 have hl1:List.length [Int.natAbs x]=1:=rfl
 have hg1:List.getD [Int.natAbs x] (List.length [Int.natAbs x]- 1) 0=Int.natAbs x:=rfl
 have hbc:jk (List.getD [Int.natAbs x] (List.length [Int.natAbs x]- 1) 0)<=64:=hbb
 refine C Z (w247 x hx h0) Z Z Z (E Z (B.jW Z un152) (Cp Z Z (fun h1=>?_) (fun h1=>?_)))
 ·exact absurd h1 (show ((1:Nat):Int)≠0 by decide)
 refine E Z (B.jW Z un152) (E Z (B.sub Z Z bj) (E Z (B.mul Z Z bj) (E Z (B.jW Z un152) (E Z (B.sub Z Z bj) (E Z (B.idx (z:=0) (i:=(List.length [(Int.natAbs x)]- 1)) Z Z un152 sz300 (fun _=>rfl) aa aa) (C Z (w309 (List.getD [(Int.natAbs x)] (List.length [(Int.natAbs x)]- 1) 0) aa) Z Z Z (E Z (B.add Z Z bj) ?_)))))))
 refine Rt Z ?_
 exact leaf (val0:=vI ((64*(((List.length [(Int.natAbs x)]:Nat):Int)-1))+(((jk (List.getD [(Int.natAbs x)] (List.length [(Int.natAbs x)]- 1) 0)):Nat):Int))) ae (by show vI (64*(((1:Nat):Int)-1)+((jk x.natAbs:Nat):Int))=_;rw[show (64:Int)*(((1:Nat):Int)-1)=0 from rfl,Int.zero_add])
theorem w275 (x:Int) (hx:Sm x):qD Tryz.prog 275 [.pv (.agg [pI x,jl])] (qw []) (vI ((jk (Int.natAbs x):Nat):Int)) []:=by
 by_cases h:x=0
 ·subst h;exact w275z
 exact w275n x hx h
end Go.Lens.Tb
end
section
namespace Go.Lens.Un
theorem sgn_neg {z:Int}:jz z<0↔z<0:=by
 unfold jz
 split
 ·simp;assumption
 split<;>simp<;>omega
def quoI (x y:NI):NI:=if y.1<0 then divI (negI x) (negI y) else divI x y
theorem b64_2':2<=B64:=ah
theorem dl_pow (n i:Nat):(dig B64 (n ^ i)).length<=i*(dig B64 n).length+1:=by
 refine dig_len_le b64_2' ?_
 have h:=Nat.pow_le_pow_left (Nat.le_of_lt (dig_len b64_2' n)) i
 rw[<-Nat.pow_mul,Nat.mul_comm] at h
 rw[Nat.pow_succ]
 have hp:0<B64 ^ (i*(dig B64 n).length):=Nat.pow_pos ah
 have h3:=Nat.mul_le_mul_left (B64 ^ (i*(dig B64 n).length)) (show 2<=B64 by decide)
 omega
def PwI (x:NI) (k j:Nat) (o a:NI):Prop:=okI a/\(dig B64 a.1.natAbs).length<=400000/\(dig B64 o.1.natAbs).length<=400000/\okI o/\∃ i e,o=madeI (x.1 ^ i)/\a.1=x.1 ^ e/\i+e*j=k
section
variable {x o a:NI} {k j:Nat}
theorem pw_init (hx:okI x) (hl:(dig B64 x.1.natAbs).length<=400000):PwI x k k (ofI 1) x:=
 ⟨hx,hl,by rw[show (ofI 1).1.natAbs=1 from rfl,dig_small b64_2' ah ah];decide,ofI_ok ah,0,1,by rw[Int.pow_zero];rfl,by rw[Int.pow_succ,Int.pow_zero,Int.one_mul],aa⟩
theorem pw_len (hk:k*(dig B64 x.1.natAbs).length<=399999) {i:Nat} (hi:i<=k):(dig B64 (x.1 ^ i).natAbs).length<=400000:=by
 rw[Int.natAbs_pow]
 refine qh (dl_pow _ _) ?_
 have:=Nat.mul_le_mul_right (dig B64 x.1.natAbs).length hi
 omega
theorem pw_next (h:PwI x k j o a) (hk:k*(dig B64 x.1.natAbs).length<=399999) (hj:0<j):PwI x k (j / 2) (if ((j%2:Nat):Int)=1 then mulI o a else o) (if (1:Int)<((j:Nat):Int) then mulI a a else a):=by
 obtain⟨h1,h2,h3,h4,i,e,h5,h6,h7⟩:=h
 have he:e*j=e*(j / 2*2)+e*(j%2):=by rw[<-Nat.mul_add];congr 1;omega
 have hej:e*1<=e*j:=Nat.mul_le_mul_left e hj
 have A:okI (if (1:Int)<((j:Nat):Int) then mulI a a else a)/\(dig B64 (if (1:Int)<((j:Nat):Int) then mulI a a else a).1.natAbs).length<=400000/\∃ e',(if (1:Int)<((j:Nat):Int) then mulI a a else a).1=x.1 ^ e'/\e'*(j / 2)=e*(j / 2*2):=by
  split
  ·have e2:(mulI a a).1=x.1 ^ (e+e):=by rw[mulI_1,h6,Int.pow_add]
   refine⟨mulI_ok _ _,?_,e+e,e2,by rw[Nat.mul_comm (j / 2) 2,<-Nat.mul_assoc,Nat.mul_two]⟩
   rw[e2]
   have:e*2<=e*j:=Nat.mul_le_mul_left e aa
   exact pw_len hk aa
  have:j / 2=0:=aa
  exact⟨h1,h2,e,h6,by rw[this,Nat.zero_mul]⟩
 obtain⟨a1,a2,e',a3,a4⟩:=A
 refine⟨a1,a2,?_⟩
 by_cases hb:((j%2:Nat):Int)=1
 ·rw[if_pos hb]
  have e3:(mulI o a).1=x.1 ^ (i+e):=by rw[mulI_1,h6,h5,madeI_1,Int.pow_add]
  have hb':j%2=1:=aa
  refine⟨?_,mulI_ok _ _,i+e,e',by rw[<-e3];rfl,a3,?_⟩
  ·rw[e3];exact pw_len hk aa
  rw[a4];rw[hb',Nat.mul_one] at he;omega
 rw[if_neg hb]
 have hb':j%2=0:=aa
 refine⟨h3,h4,i,e',h5,a3,?_⟩
 rw[a4];rw[hb',Nat.mul_zero] at he;omega
theorem pw_end (h:PwI x k 0 o a):madeI (x.1 ^ k)=o:=by
 obtain⟨_,_,_,_,i,e,h5,_,h7⟩:=h
 have:i=k:=by simpa using h7
 rw[h5,this]
end
def Dgs (l:List UInt8):Prop:=∀ c∈l,48<=c.toNat/\c.toNat<=57
def dgv (c:UInt8):Nat:=c.toNat-48
def j0 (l:List UInt8):Nat:=l.foldl (fun a c=>a*10+dgv c) 0
theorem decV_from (a:Nat):∀ l:List UInt8,l.foldl (fun a c=>a*10+dgv c) a=a*10 ^ l.length+j0 l:=by
 intro l
 induction l generalizing a with
 | nil=>simp[j0]
 | cons c l ih=>
  unfold j0
  rw[List.foldl_cons,List.foldl_cons,ih,ih (0*10+dgv c),zb,Nat.pow_succ]
  rw[Nat.zero_mul,Nat.zero_add,Nat.add_mul,Nat.mul_assoc,Nat.mul_comm 10,Nat.add_assoc]
theorem decV_app (l m:List UInt8):j0 (l++m)=j0 l*10 ^ m.length+j0 m:=by
 unfold j0
 rw[List.foldl_append,decV_from];rfl
theorem decV_one (c:UInt8):j0 [c]=dgv c:=by simp[j0]
theorem decV_snoc (l:List UInt8) (c:UInt8):j0 (l++[c])=j0 l*10+dgv c:=by
 rw[decV_app,decV_one];rfl
theorem Dgs.app {l m:List UInt8} (h:Dgs l) (k:Dgs m):Dgs (l++m):=fun c hc=>(zI.1 hc).elim (h c) (k c)
theorem Dgs.take {l:List UInt8} (h:Dgs l) (k:Nat):Dgs (l.take k):=fun c hc=>h c (zx hc)
theorem Dgs.drop {l:List UInt8} (h:Dgs l) (k:Nat):Dgs (l.drop k):=fun c hc=>h c (zy hc)
theorem decV_lt:∀ {l:List UInt8},Dgs l->j0 l<10 ^ l.length:=by
 intro l
 induction l with
 | nil=>intro _;decide
 | cons c l ih=>
  intro h
  have h1:=ih fun x hx=>h x (zO _ hx)
  have h2:=h c (ql ..)
  have e:j0 (c::l)=dgv c*10 ^ l.length+j0 l:=by
   have:=decV_app [c] l
   rwa [decV_one] at this
  rw[e,zb,Nat.pow_succ]
  have h3:dgv c*10 ^ l.length<=9*10 ^ l.length:=Nat.mul_le_mul_right _ (by unfold dgv;omega)
  omega
theorem atoi_dg {l:List UInt8} (h:Dgs l) (hn:l≠[]):Lib.atoi l=some ((j0 l:Nat):Int):=by
 have key:∀ (l:List UInt8) (a:Nat),Dgs l->Lib.decFrom a l=some (l.foldl (fun a c=>a*10+dgv c) a):=by
  intro l
  induction l with
  | nil=>intro a _;rfl
  | cons c l ih=>
   intro a h
   have h2:=h c (ql ..)
   unfold Lib.decFrom Lib.digitVal
   rw[if_pos h2]
   exact ih _ fun x hx=>h x (zO _ hx)
 cases l with
 | nil=>exact absurd Z hn
 | cons b r=>
  have h2:=h b (ql ..)
  have n1:(b==45)=false:=by
   cases e:b==45
   ·rfl
   exfalso
   have:=eq_of_beq e
   subst this
   exact absurd h2.1 ah
  have n2:(b==43)=false:=by
   cases e:b==43
   ·rfl
   exfalso
   have:=eq_of_beq e
   subst this
   exact absurd h2.1 ah
  simp only[Lib.atoi,n1,n2,qo,qq,Lib.decNat,List.isEmpty_cons]
  rw[key _ _ h];rfl
theorem dg_byte {d:Nat} (h:d<10):(UInt8.ofNat (48+d)).toNat=48+d:=by
 rw[UInt8.toNat_ofNat']
 omega
theorem dgs_dec:∀ n:Nat,Dgs (Lib.decDigits n):=by
 intro n
 induction n using Nat.strongRecOn with
 | ind n ih=>
  rw[Lib.decDigits]
  split
  ·rename_i h
   intro c hc
   rw[zg.1 hc,dg_byte h];omega
  refine (ih (n / 10) aa).app fun c hc=>?_
  rw[zg.1 hc,dg_byte (Nat.mod_lt _ ah)];omega
theorem decV_dec:∀ n:Nat,j0 (Lib.decDigits n)=n:=by
 intro n
 induction n using Nat.strongRecOn with
 | ind n ih=>
  rw[Lib.decDigits]
  split
  ·rename_i h
   rw[decV_one,dgv,dg_byte h];omega
  rw[decV_snoc,ih (n / 10) aa,dgv,dg_byte (Nat.mod_lt _ ah)];omega
def Cano (l:List UInt8):Prop:=Dgs l/\l≠[]/\(l.head? =some 48->l.length=1)
theorem snoc_cases:∀ l:List UInt8,l=[]\/∃ i c,l=i++[c]:=by
 intro l
 rcases List.eq_nil_or_concat l with h|⟨i,c,h⟩
 ·exact .inl h
 exact .inr ⟨i,c,by rw[h,List.concat_eq_append]⟩
theorem decV_pos:∀ {l:List UInt8},Dgs l->l≠[]->l.head?≠some 48->10 ^ (l.length-1)<=j0 l:=by
 intro l h hn hh
 cases l with
 | nil=>exact absurd Z hn
 | cons c l=>
  have e:j0 (c::l)=dgv c*10 ^ l.length+j0 l:=by
   have:=decV_app [c] l
   rwa [decV_one] at this
  have h2:=h c (ql ..)
  have h3:1<=dgv c:=by
   unfold dgv
   rcases Nat.lt_or_ge 48 c.toNat with g|g
   ·omega
   exfalso
   refine hh ?_
   have:c=48:=UInt8.toNat_inj.1 (show c.toNat=48 by omega)
   rw[this];rfl
  rw[e,zb,Nat.add_sub_cancel]
  have h4:1*10 ^ l.length<=dgv c*10 ^ l.length:=Nat.mul_le_mul_right _ h3
  omega
theorem byte_dg {c:UInt8} (h:48<=c.toNat/\c.toNat<=57):UInt8.ofNat (48+dgv c)=c:=by
 refine UInt8.toNat_inj.1 ?_
 rw[dg_byte (by unfold dgv;omega)]
 unfold dgv;omega
theorem dec_of:∀ (k:Nat) {l:List UInt8},l.length=k->Cano l->Lib.decDigits (j0 l)=l:=by
 intro k
 induction k with
 | zero=>intro l hl h;exact absurd (List.length_eq_zero_iff.1 hl) h.2.1
 | succ k ih=>
  intro l hl ⟨h1,h2,h3⟩
  rcases snoc_cases l with rfl|⟨i,c,rfl⟩
  ·exact absurd Z h2
  have hc:=h1 c ao
  have hd:dgv c<10:=by unfold dgv;omega
  rw[decV_snoc]
  by_cases hi:i=[]
  ·subst hi
   rw[show j0 []=0 from rfl,Nat.zero_mul,Nat.zero_add,Lib.decDigits,dif_pos hd,byte_dg hc];rfl
  have hi1:Dgs i:=fun x hx=>h1 x (by simp[hx])
  have hh:i.head?≠some 48:=by
   intro e
   have e2:(i++[c]).head? =some 48:=by
    cases i with
    | nil=>exact absurd Z hi
    | cons a i=>exact e
   have:=h3 e2
   rw[za,qb] at this
   exact hi (List.length_eq_zero_iff.1 aa)
  have hp:=decV_pos hi1 hi hh
  have hp1:=Nat.pow_pos (n:=i.length-1) (show 0<10 by decide)
  rw[Lib.decDigits,dif_neg aa,show (j0 i*10+dgv c) / 10=j0 i by omega,show (j0 i*10+dgv c)%10=dgv c by omega,byte_dg hc,
   ih (by rw[za,qb] at hl;omega) ⟨hi1,hi,fun e=>absurd e hh⟩]
theorem dec_ne (n:Nat):Lib.decDigits n≠[]:=by
 rw[Lib.decDigits]
 split<;>simp
theorem cano_dec (n:Nat):Cano (Lib.decDigits n)/\(n≠0->(Lib.decDigits n).head?≠some 48):=by
 have key:∀ n:Nat,n≠0->(Lib.decDigits n).head?≠some 48:=by
  intro n
  induction n using Nat.strongRecOn with
  | ind n ih=>
   intro h0
   rw[Lib.decDigits]
   split
   ·rename_i h
    intro e
    have e2:UInt8.ofNat (48+n)=48:=by simpa using e
    have:=congrArg UInt8.toNat e2
    rw[dg_byte h] at this
    exact h0 (by have e3:(48:UInt8).toNat=48:=rfl
                 omega)
   intro e
   refine ih (n / 10) aa aa ?_
   cases hd:Lib.decDigits (n / 10) with
   | nil=>exact absurd hd (dec_ne _)
   | cons a i=>rw[hd] at e;exact e
 refine⟨⟨dgs_dec n,dec_ne n,fun e=>?_⟩,key n⟩
 by_cases h0:n=0
 ·subst h0;rw[Lib.decDigits,dif_pos ah];rfl
 exact absurd e (key n h0)
theorem dec_len {n k:Nat} (hk:0<k) (h:n<10 ^ k):(Lib.decDigits n).length<=k:=by
 by_cases h0:n=0
 ·subst h0
  rw[Lib.decDigits,dif_pos ah];exact hk
 have h1:=decV_pos (dgs_dec n) (dec_ne n) ((cano_dec n).2 h0)
 rw[decV_dec] at h1
 rcases Nat.lt_or_ge k (Lib.decDigits n).length with g|g
 ·exfalso
  have:=Nat.pow_le_pow_right (show 0<10 by decide) (show k<=(Lib.decDigits n).length-1 by omega)
  omega
 exact g
end Go.Lens.Un
end
section
namespace Go.Proofs
open Go.Shelf
def Tryz.laysM171_ren:Go.Shelf.Ren:=⟨fun|171=>262|243=>291|246=>323|283=>324|284=>325|285=>326|286=>327|129=>309|317=>343|318=>344|319=>345|320=>346|337=>353|338=>354|n=>n,fun|3=>3|9=>9|2=>2|4=>4|171=>365|0=>0|53=>300|37=>317|5=>5|173=>367|212=>386|51=>321|20=>20|213=>387|46=>275|232=>401|233=>402|n=>n,fun|17=>6|18=>9|19=>10|n=>n⟩
theorem Tryz.laysM171:Go.Proofs.LaysM.n171 Tryz.prog Tryz.laysM171_ren:={
  mixed:=ae
  f129:=Tryz.func309.trans (congrArg some ae)
  f171:=Tryz.func262.trans (congrArg some ae)
  f243:=Tryz.func291.trans (congrArg some ae)
  f246:=Tryz.func323.trans (congrArg some ae)
  f283:=Tryz.func324.trans (congrArg some ae)
  f284:=Tryz.func325.trans (congrArg some ae)
  f285:=Tryz.func326.trans (congrArg some ae)
  f286:=Tryz.func327.trans (congrArg some ae)
  f317:=Tryz.func343.trans (congrArg some ae)
  f318:=Tryz.func344.trans (congrArg some ae)
  f319:=Tryz.func345.trans (congrArg some ae)
  f320:=Tryz.func346.trans (congrArg some ae)
  f337:=Tryz.func353.trans (congrArg some ae)
  f338:=Tryz.func354.trans (congrArg some ae)
  t0:=Tryz.underlying0
  a0:=Tryz.isAgg0
  z0:=Tryz.sizeOf0
  v0:=Tryz.zeroValue0
  t2:=Tryz.underlying2
  a2:=Tryz.isAgg2
  z2:=Tryz.sizeOf2
  v2:=Tryz.zeroValue2
  t3:=Tryz.underlying3
  a3:=Tryz.isAgg3
  z3:=Tryz.sizeOf3
  v3:=Tryz.zeroValue3
  t4:=Tryz.underlying4
  a4:=Tryz.isAgg4
  z4:=Tryz.sizeOf4
  v4:=Tryz.zeroValue4
  t5:=Tryz.underlying5
  a5:=Tryz.isAgg5
  z5:=Tryz.sizeOf5
  v5:=Tryz.zeroValue5
  t9:=Tryz.underlying9
  a9:=Tryz.isAgg9
  z9:=Tryz.sizeOf9
  v9:=Tryz.zeroValue9
  t20:=Tryz.underlying20
  a20:=Tryz.isAgg20
  z20:=Tryz.sizeOf20
  v20:=Tryz.zeroValue20
  t37:=Tryz.underlying317
  a37:=Tryz.isAgg317
  z37:=Tryz.sizeOf317
  v37:=Tryz.zeroValue317
  t46:=Tryz.underlying275
  a46:=Tryz.isAgg275
  z46:=Tryz.sizeOf275
  v46:=Tryz.zeroValue275
  t51:=Tryz.underlying321
  a51:=Tryz.isAgg321
  z51:=Tryz.sizeOf321
  v51:=Tryz.zeroValue321
  t53:=Tryz.underlying300
  a53:=Tryz.isAgg300
  z53:=Tryz.sizeOf300
  v53:=Tryz.zeroValue300
  t171:=Tryz.underlying365
  a171:=Tryz.isAgg365
  z171:=Tryz.sizeOf365
  v171:=Tryz.zeroValue365
  t173:=Tryz.underlying367
  a173:=Tryz.isAgg367
  z173:=Tryz.sizeOf367
  v173:=Tryz.zeroValue367
  t212:=Tryz.underlying386
  a212:=Tryz.isAgg386
  z212:=Tryz.sizeOf386
  v212:=Tryz.zeroValue386
  t213:=Tryz.underlying387
  a213:=Tryz.isAgg387
  z213:=Tryz.sizeOf387
  t232:=Tryz.underlying401
  a232:=Tryz.isAgg401
  z232:=Tryz.sizeOf401
  v232:=Tryz.zeroValue401
  t233:=Tryz.underlying402
  a233:=Tryz.isAgg402
  z233:=Tryz.sizeOf402
  v233:=Tryz.zeroValue402
  g17:=ae
  g18:=ae
  g19:=ae
  i0:=ae
  i2:=ae
  i3:=ae
  i4:=ae
  i5:=ae
  i9:=ae
  i20:=ae
  i37:=ae
  i46:=ae
  i51:=ae
  i53:=ae
  i171:=ae
  i173:=ae
  i212:=ae
  i232:=ae
  i233:=ae
  m17:=ae
  m18:=ae
  m19:=by kernel_rfl }
open Go.RowKit Go.Sort Go.Lib in
theorem Tryz.strconv_Itoa (n:Int) (h0: -9223372036854775808<=n) (h1:n<=9223372036854775807) (w:World) (htab:Lib.TabIs Tryz.prog w "internal/strconv.uint64pow10" .u64 Lib.pow10Tab) :
    Calls Tryz.prog 262 #[.int .i64 n] w fun e w'=>e=.returned (.string ⟨(Lib.itoa n).toArray⟩)/\∃ k os,w'=grow (w.drewN k) os:=Any.strconv_Itoa Tryz.laysM171 n h0 h1 w htab
open Go.RowKit Go.Sort Go.Lib in
set_option maxRecDepth 100000 in
theorem Tryz.fmtU (u:Nat) (hu64:u<18446744073709551616) (w:World) (htab:Lib.TabIs Tryz.prog w "internal/strconv.uint64pow10" .u64 Lib.pow10Tab) :
    Calls Tryz.prog 296 #[.int .u64 u,.int .i64 10] w fun e w'=>e=.returned (.string ⟨(Lib.decDigits u).toArray⟩)/\∃ k os,w'=grow (w.drewN k) os:=by
  have L:=Tryz.laysM171
  have mixed:=L.mixed
  have e324:∀ args w,(callFunc 324 args).run Tryz.prog w=.ok (.enter 324 args) w:=enters_of Tryz.func324 ae rfl
  have e325:∀ args w,(callFunc 325 args).run Tryz.prog w=.ok (.enter 325 args) w:=enters_of Tryz.func325 ae rfl
  have e326:∀ args w,(callFunc 326 args).run Tryz.prog w=.ok (.enter 326 args) w:=enters_of Tryz.func326 ae rfl
  by_cases hs:u<100
  · go_enter Tryz.func296,Tryz.ntmps296
    go_wp2_with (go_at_fn 324;refine (Any.internal_strconv_small { L with } u hs _).mono ?_;rintro e w' ⟨rfl,rfl⟩)
    go_ret
    exact⟨rfl,0, #[],by simp[World.drewN_zero]⟩
  · have hu1:1<=u:=aa
    have hnd20:Lib.nDigits u<=20:=by have:=Lib.numDigits_eq u hu1 hu64;split at this<;>omega
    have hal:Tryz.prog.arrayLen 365=24:=ae
    have hsl1:∀ W,(Instr.sliceAt 365 (.pointer (some ⟨w.heap.size,0,none⟩)) none (some (.int .i64 (Lib.nDigits u:Int))) none).run Tryz.prog W=.ok (.slice (some ⟨w.heap.size,0,none⟩) (Lib.nDigits u) 24) W:=fun W=>by
      rw[run_sliceAt_array_h W 365 ⟨w.heap.size,0,none⟩ ae .i64 (Lib.nDigits u:Int) aa (by rw[hal];omega)]
      go_simp
    have hH0:=Lib.holds_zero0 w 365 (Lib.nDigits u) aa
    have hfmt:=Any.internal_strconv_formatBase10 { L with } w.heap.size 0 24 u (Array.replicate (Lib.nDigits u) 0) (w.alloc (.cells Lib.zeros24 365)) hH0 (by rw[Array.size_replicate];exact Lib.lt_pow_nDigits u) hu64 (by rw[Array.size_replicate];omega)
    rw[Array.size_replicate] at hfmt
    have HH0:=Lib.hid hH0
    clear hH0 hal
    go_enter Tryz.func296,Tryz.ntmps296
    go_wp2_with (first
      | (go_at_fn 325;refine (Any.internal_strconv_numDigits { L with } u hu1 hu64 _ (Lib.tabIs_alloc htab _)).mono ?_;rintro e w' ⟨rfl,rfl⟩))
    go_at_fn 326
    refine hfmt.mono ?_
    rintro e w' ⟨rfl,k,v',dk,rfl,hF⟩
    have hcv:(convert 317 9 (.slice (some ⟨w.heap.size,0,none⟩) (Lib.nDigits u) 24)).run Tryz.prog ((putRow (fun (b:UInt8)=>Value.int .u8 (b.toNat:Int)) (w.alloc (.cells Lib.zeros24 365)) w.heap.size 0 dk).drewN k)=.ok (.string ⟨(Lib.decDigits u).toArray⟩) ((putRow (fun (b:UInt8)=>Value.int .u8 (b.toNat:Int)) (w.alloc (.cells Lib.zeros24 365)) w.heap.size 0 dk).drewN k):=by
      have h:=run_convert_bytes_back (P:=Tryz.prog) ((putRow (fun (b:UInt8)=>Value.int .u8 (b.toNat:Int)) (w.alloc (.cells Lib.zeros24 365)) w.heap.size 0 dk).drewN k) 317 9 5 ⟨w.heap.size,0,none⟩ 24 (Lib.decDigits u) L.t37 L.t5 L.t9 (fun j hj=>by
        rw[Lib.row_is_numeral hF j hj,Lib.add_plain,World.cell?_drewN]
        exact cell?_putRow (fun (b:UInt8)=>Value.int .u8 (b.toNat:Int)) _ w.heap.size 0 _ dk HH0.out (by rw[hF.size,Array.size_replicate]) j (by rw[hF.size];rw[Lib.decDigits_length] at hj;exact hj))
      rw[Lib.decDigits_length] at h
      exact h
    go_wp2
    go_ret
    obtain⟨os,eo⟩:=Lib.fin_at w (.cells Lib.zeros24 365) dk k 0
    exact⟨rfl,k,os,eo⟩
end Go.Proofs
end
section
namespace Go.Proofs
open Go.Shelf
def Tryz.lays172_ren:Go.Shelf.Ren:=⟨fun|172=>244|244=>286|245=>287|247=>318|279=>319|280=>320|281=>321|282=>322|287=>340|316=>341|171=>262|205=>342|321=>351|322=>352|243=>291|246=>323|283=>324|284=>325|285=>326|286=>327|129=>309|317=>343|318=>344|319=>345|320=>346|337=>353|338=>354|n=>n,fun|9=>9|3=>3|75=>292|76=>293|4=>4|5=>5|167=>358|37=>317|0=>0|85=>359|2=>2|168=>361|53=>300|175=>379|46=>275|210=>383|127=>343|145=>400|143=>398|21=>21|171=>365|173=>367|212=>386|51=>321|20=>20|213=>387|232=>401|233=>402|80=>271|n=>n,fun|15=>4|16=>5|17=>6|18=>9|19=>10|n=>n⟩
theorem Tryz.lays172:Go.Proofs.Lays.n172 Tryz.prog Tryz.lays172_ren:={
  mixed:=ae
  f129:=Tryz.func309.trans (congrArg some ae)
  f171:=Tryz.func262.trans (congrArg some ae)
  f172:=Tryz.func244.trans (congrArg some ae)
  f205:=Tryz.func342.trans (congrArg some ae)
  f243:=Tryz.func291.trans (congrArg some ae)
  f244:=Tryz.func286.trans (congrArg some ae)
  f245:=Tryz.func287.trans (congrArg some ae)
  f246:=Tryz.func323.trans (congrArg some ae)
  f247:=Tryz.func318.trans (congrArg some ae)
  f279:=Tryz.func319.trans (congrArg some ae)
  f280:=Tryz.func320.trans (congrArg some ae)
  f281:=Tryz.func321.trans (congrArg some ae)
  f282:=Tryz.func322.trans (congrArg some ae)
  f283:=Tryz.func324.trans (congrArg some ae)
  f284:=Tryz.func325.trans (congrArg some ae)
  f285:=Tryz.func326.trans (congrArg some ae)
  f286:=Tryz.func327.trans (congrArg some ae)
  f287:=Tryz.func340.trans (congrArg some ae)
  f316:=Tryz.func341.trans (congrArg some ae)
  f317:=Tryz.func343.trans (congrArg some ae)
  f318:=Tryz.func344.trans (congrArg some ae)
  f319:=Tryz.func345.trans (congrArg some ae)
  f320:=Tryz.func346.trans (congrArg some ae)
  f321:=Tryz.func351.trans (congrArg some ae)
  f322:=Tryz.func352.trans (congrArg some ae)
  f337:=Tryz.func353.trans (congrArg some ae)
  f338:=Tryz.func354.trans (congrArg some ae)
  t0:=Tryz.underlying0
  a0:=Tryz.isAgg0
  z0:=Tryz.sizeOf0
  v0:=Tryz.zeroValue0
  t2:=Tryz.underlying2
  a2:=Tryz.isAgg2
  z2:=Tryz.sizeOf2
  v2:=Tryz.zeroValue2
  t3:=Tryz.underlying3
  a3:=Tryz.isAgg3
  z3:=Tryz.sizeOf3
  v3:=Tryz.zeroValue3
  t4:=Tryz.underlying4
  a4:=Tryz.isAgg4
  z4:=Tryz.sizeOf4
  v4:=Tryz.zeroValue4
  t5:=Tryz.underlying5
  a5:=Tryz.isAgg5
  z5:=Tryz.sizeOf5
  v5:=Tryz.zeroValue5
  t9:=Tryz.underlying9
  a9:=Tryz.isAgg9
  z9:=Tryz.sizeOf9
  v9:=Tryz.zeroValue9
  t20:=Tryz.underlying20
  a20:=Tryz.isAgg20
  z20:=Tryz.sizeOf20
  v20:=Tryz.zeroValue20
  t21:=Tryz.underlying21
  a21:=Tryz.isAgg21
  z21:=Tryz.sizeOf21
  v21:=Tryz.zeroValue21
  t37:=Tryz.underlying317
  a37:=Tryz.isAgg317
  z37:=Tryz.sizeOf317
  v37:=Tryz.zeroValue317
  t46:=Tryz.underlying275
  a46:=Tryz.isAgg275
  z46:=Tryz.sizeOf275
  v46:=Tryz.zeroValue275
  t51:=Tryz.underlying321
  a51:=Tryz.isAgg321
  z51:=Tryz.sizeOf321
  v51:=Tryz.zeroValue321
  t53:=Tryz.underlying300
  a53:=Tryz.isAgg300
  z53:=Tryz.sizeOf300
  v53:=Tryz.zeroValue300
  t75:=Tryz.underlying292
  a75:=Tryz.isAgg292
  z75:=Tryz.sizeOf292
  v75:=Tryz.zeroValue292
  t76:=Tryz.underlying293
  a76:=Tryz.isAgg293
  z76:=Tryz.sizeOf293
  v76:=Tryz.zeroValue293
  t85:=Tryz.underlying359
  a85:=Tryz.isAgg359
  z85:=Tryz.sizeOf359
  v85:=Tryz.zeroValue359
  t127:=Tryz.underlying343
  a127:=Tryz.isAgg343
  z127:=Tryz.sizeOf343
  v127:=Tryz.zeroValue343
  t143:=Tryz.underlying398
  a143:=Tryz.isAgg398
  z143:=Tryz.sizeOf398
  v143:=Tryz.zeroValue398
  t145:=Tryz.underlying400
  a145:=Tryz.isAgg400
  z145:=Tryz.sizeOf400
  v145:=Tryz.zeroValue400
  t167:=Tryz.underlying358
  a167:=Tryz.isAgg358
  z167:=Tryz.sizeOf358
  v167:=Tryz.zeroValue358
  t168:=Tryz.underlying361
  a168:=Tryz.isAgg361
  z168:=Tryz.sizeOf361
  v168:=Tryz.zeroValue361
  t171:=Tryz.underlying365
  a171:=Tryz.isAgg365
  z171:=Tryz.sizeOf365
  v171:=Tryz.zeroValue365
  t173:=Tryz.underlying367
  a173:=Tryz.isAgg367
  z173:=Tryz.sizeOf367
  v173:=Tryz.zeroValue367
  t175:=Tryz.underlying379
  a175:=Tryz.isAgg379
  z175:=Tryz.sizeOf379
  v175:=Tryz.zeroValue379
  t210:=Tryz.underlying383
  a210:=Tryz.isAgg383
  z210:=Tryz.sizeOf383
  v210:=Tryz.zeroValue383
  t212:=Tryz.underlying386
  a212:=Tryz.isAgg386
  z212:=Tryz.sizeOf386
  v212:=Tryz.zeroValue386
  t213:=Tryz.underlying387
  a213:=Tryz.isAgg387
  z213:=Tryz.sizeOf387
  t232:=Tryz.underlying401
  a232:=Tryz.isAgg401
  z232:=Tryz.sizeOf401
  v232:=Tryz.zeroValue401
  t233:=Tryz.underlying402
  a233:=Tryz.isAgg402
  z233:=Tryz.sizeOf402
  v233:=Tryz.zeroValue402
  g15:=ae
  g16:=ae
  g17:=ae
  g18:=ae
  g19:=by kernel_rfl }
open Go.RowKit in
theorem Tryz.strconv_Atoi (s:ByteArray) (n:Int) (hl:s.size<=18) (h:Lib.atoi s.data.toList=some n) (w:World) :
    Calls Tryz.prog 244 #[.string s] w fun e w'=>e=.returned (.tuple #[.int .i64 n,.nilIface])/\∃ t,w'=Lib.bytesWorld w 5 t:=Any.strconv_Atoi Tryz.lays172 s n hl h w
end Go.Proofs
end
namespace Go.Lens.Tb
open Go.Proofs
abbrev CKa[Lz](f:FuncId)(ds:List DV)(val:DV):Prop:=qD Tryz.prog f ds (qw []) val []
end Go.Lens.Tb
